import PyProof.Rows.All
import Wide.All
import OpenK.AllK
import Wide.FinOn
import HandS.ForMost
import HandS.ForExc
import HandS.Flow
import HandS.Wide
import HandS.Deep
import HandS.IsInst
import HandS.Walk
import HandS.SortInts
import HandS.CallSlots
import HandS.Style
import HandS.WideBits
import HandS.ExcCtx
import HandS.TryOnly
import HandS.More
import HandS.Strs
import KE.DataMinMax
import HandS.EndBits
import HandS.Sort
import PyProof.ListRange
import HandS.ExcIs
import HandS.Dict
import HandS.HotCalls
import HandS.Zip
import HandS.Lambda
import HandS.EndTab
import HandS.EndOwn
import HandS.SuiteRaise
import HandS.SetFor
import HandS.Iter
import PySem.Challenge.RW_evensquare_k08_whole_numbers
set_option Elab.async false
set_option linter.all false
set_option maxRecDepth 100000
set_option maxHeartbeats 8000000
namespace G6
open PySem PySem.Spec PyProof.Rows L2

abbrev St := L2.St
/-! ### data -/
inductive Da where
  | non | bl (b : Bool) | int (i : Int) | str (s : Str) | lst (xs : List Da) | tup (xs : List Da) | emp | even (t : Da) | unl (a b : Da) | scr (ns : List Int) | kt (xs : List Da) | err

/-- what is told of the written part -/
structure Tx where
  K : PySem.W.Frag
  mg : Str → Option Value
  ce : Addr
  cu : Addr
  ea : Option Addr := none

def Ex (H H' : Hp) : Prop := ∀ a o, H a = some o → H' a = some o
theorem Ex.refl (H : Hp) : Ex H H := fun _ _ h => h
theorem Ex.trans {H H1 H2 : Hp} (a : Ex H H1) (b : Ex H1 H2) : Ex H H2 := fun x o h => b x o (a x o h)
theorem Ex.back {H H' : Hp} {p : Addr} (e : Ex H H') (h : H' p = none) : H p = none := by
  cases q : H p with
  | none => rfl
  | some o => rw [e p o q] at h; cases h
theorem Ex.new {H : Hp} {p : Addr} {o : HO} (h : H p = none) : Ex H (upd H p o) := fun a u e => by
  rw [upd_ne (ne_of_none e h)]
  exact e
theorem Ex.mut {H H' : Hp} {p : Addr} {o : HO} (e : Ex H H') (h : H p = none) : Ex H (upd H' p o) := fun a u ha => by
  rw [upd_ne (ne_of_none ha h)]
  exact e a u ha
theorem ex_rd {H H' : Hp} {a : Addr} {u : HO} (e : Ex H H') (h : Rd H a u) : Rd H' a u := by
  rcases h with h | ⟨o, h⟩
  · exact .inl (e a _ h)
  · exact .inr ⟨o, e a _ h⟩
theorem ex_l {K : PySem.W.Frag} {H H' : Hp} {a : Addr} {xs : List V} (e : Ex H H') (h : SqL K H a xs) : SqL K H' a xs := by
  rcases h with h | h
  · exact .inl (ex_rd e h)
  · exact .inr h
theorem ex_t {K : PySem.W.Frag} {H H' : Hp} {a : Addr} {xs : List V} (e : Ex H H') (h : SqT K H a xs) : SqT K H' a xs := by
  rcases h with h | h
  · exact .inl (ex_rd e h)
  · exact .inr h

mutual
inductive Rep (T : Tx) (H : Hp) : V → Da → Prop
  | non : Rep T H .non .non
  | bl (b : Bool) : Rep T H (.bl b) (.bl b)
  | int (i : Int) : Rep T H (.int i) (.int i)
  | str (s : Str) : Rep T H (.str s) (.str s)
  | lst {a : Addr} {xs : List V} {ds : List Da} : H a = some (.lst xs) → RepAll T H xs ds → Rep T H (.ref a) (.lst ds)
  | tup {a : Addr} {xs : List V} {ds : List Da} : SqT T.K H a xs → RepAll T H xs ds → Rep T H (.ref a) (.tup ds)
  | emp {a : Addr} : H a = some (.dK []) → Rep T H (.ref a) .emp
  | even {a dx : Addr} {v : V} {d : Da} : H a = some (.ins T.ce dx [("total", v)]) → Rep T H v d → Rep T H (.ref a) (.even d)
  | unl {a dx : Addr} {v u : V} {d e : Da} : H a = some (.ins T.cu dx [("one", v), ("other", u)]) → Rep T H v d → Rep T H u e → Rep T H (.ref a) (.unl d e)
  | scr {a : Addr} {ns : List Int} : SqL T.K H a (ns.map V.int) → Rep T H (.ref a) (.scr ns)
  | kt {a : Addr} {o : Obj} {xs : List V} {ds : List Da} : T.K.lookup a = some o → o.cls = .type "tuple" → o.dict = none → SqT T.K H a xs → RepAll T H xs ds → Rep T H (.ref a) (.kt ds)
  | err {a : Addr} : T.ea = some a → Rep T H (.ref a) .err
inductive RepAll (T : Tx) (H : Hp) : List V → List Da → Prop
  | nil : RepAll T H [] []
  | cons {v : V} {vs : List V} {d : Da} {ds : List Da} : Rep T H v d → RepAll T H vs ds → RepAll T H (v :: vs) (d :: ds)
end
mutual
theorem Rep.mono {T : Tx} {H H' : Hp} (e : Ex H H') : ∀ {v : V} {d : Da}, Rep T H v d → Rep T H' v d
  | _, _, .non => .non
  | _, _, .bl b => .bl b
  | _, _, .int i => .int i
  | _, _, .str s => .str s
  | _, _, .lst h r => .lst (e _ _ h) (RepAll.mono e r)
  | _, _, .tup h r => .tup (ex_t e h) (RepAll.mono e r)
  | _, _, .emp h => .emp (e _ _ h)
  | _, _, .even h r => .even (e _ _ h) (Rep.mono e r)
  | _, _, .unl h r q => .unl (e _ _ h) (Rep.mono e r) (Rep.mono e q)
  | _, _, .scr h => .scr (ex_l e h)
  | _, _, .kt h1 h2 h3 h r => .kt h1 h2 h3 (ex_t e h) (RepAll.mono e r)
  | _, _, .err h => .err h
theorem RepAll.mono {T : Tx} {H H' : Hp} (e : Ex H H') : ∀ {vs : List V} {ds : List Da}, RepAll T H vs ds → RepAll T H' vs ds
  | _, _, .nil => .nil
  | _, _, .cons r t => .cons (Rep.mono e r) (RepAll.mono e t)
end
section
variable {T : Tx} {H : Hp}
theorem RepAll.length : ∀ {vs : List V} {ds : List Da}, RepAll T H vs ds → vs.length = ds.length
  | _, _, .nil => rfl
  | _, _, .cons _ t => by simp [RepAll.length t]
theorem RepAll.get : ∀ {vs : List V} {ds : List Da} {i : Nat} {v : V}, RepAll T H vs ds → vs[i]? = some v → ∃ d, ds[i]? = some d ∧ Rep T H v d
  | _, _, _, _, .nil, e => by simp at e
  | _, _, 0, _, .cons r _, e => by simp at e; subst e; exact ⟨_, rfl, r⟩
  | _, _, i + 1, v, .cons _ t, e => by
    obtain ⟨d, h1, h2⟩ := RepAll.get (i := i) (v := v) t (by simpa using e)
    exact ⟨d, by simpa using h1, h2⟩
theorem RepAll.get' : ∀ {vs : List V} {ds : List Da} {i : Nat} {d : Da}, RepAll T H vs ds → ds[i]? = some d → ∃ v, vs[i]? = some v ∧ Rep T H v d
  | _, _, _, _, .nil, e => by simp at e
  | _, _, 0, _, .cons r _, e => by simp at e; subst e; exact ⟨_, rfl, r⟩
  | _, _, i + 1, v, .cons _ t, e => by
    obtain ⟨d, h1, h2⟩ := RepAll.get' (i := i) (d := v) t (by simpa using e)
    exact ⟨d, by simpa using h1, h2⟩
theorem RepAll.append : ∀ {vs us : List V} {ds es : List Da}, RepAll T H vs ds → RepAll T H us es → RepAll T H (vs ++ us) (ds ++ es)
  | _, _, _, _, .nil, s => s
  | _, _, _, _, .cons r t, s => .cons r (RepAll.append t s)
theorem RepAll.set {x : V} {d : Da} (r : Rep T H x d) : ∀ {vs : List V} {ds : List Da} (i : Nat), RepAll T H vs ds → RepAll T H (vs.set i x) (ds.set i d)
  | _, _, _, .nil => .nil
  | _, _, 0, .cons _ t => .cons r t
  | _, _, i + 1, .cons q t => .cons q (RepAll.set r i t)
theorem RepAll.take : ∀ {vs : List V} {ds : List Da} (n : Nat), RepAll T H vs ds → RepAll T H (vs.take n) (ds.take n)
  | _, _, 0, _ => .nil
  | _, _, _ + 1, .nil => .nil
  | _, _, n + 1, .cons r t => .cons r (RepAll.take n t)
theorem RepAll.drop : ∀ {vs : List V} {ds : List Da} (n : Nat), RepAll T H vs ds → RepAll T H (vs.drop n) (ds.drop n)
  | _, _, 0, r => r
  | _, _, _ + 1, .nil => .nil
  | _, _, n + 1, .cons _ t => RepAll.drop n t
theorem RepAll.reverse : ∀ {vs : List V} {ds : List Da}, RepAll T H vs ds → RepAll T H vs.reverse ds.reverse
  | _, _, .nil => .nil
  | _, _, .cons r t => by
    rw [List.reverse_cons, List.reverse_cons]
    exact (RepAll.reverse t).append (.cons r .nil)
theorem RepAll.ints : ∀ ns : List Int, RepAll T H (ns.map V.int) (ns.map Da.int)
  | [] => .nil
  | n :: ns => .cons (.int n) (RepAll.ints ns)
end

/-! ### slots, results -/
inductive Sl where
  | dead | sh (d : Da) | ow (xs : List Da) | ow2 (xss : List (List Da))
def Sl.view : Sl → Option Da
  | .dead => none
  | .sh d => some d
  | .ow xs => some (.lst xs)
  | .ow2 xss => some (.lst (xss.map .lst))
inductive Rs (α : Type) where
  | ok (a : α) | ex (c : Str) | no
def Rs.bind {α β : Type} (r : Rs α) (k : α → Rs β) : Rs β := match r with
  | .ok a => k a
  | .ex c => .ex c
  | .no => .no
def dat (r : Rs Sl) : Rs Da := match r with
  | .ok s => (match s.view with
    | some d => .ok d
    | none => .no)
  | .ex c => .ex c
  | .no => .no
def ofO {α : Type} (o : Option α) : Rs α := match o with
  | some a => .ok a
  | none => .no
abbrev Rho := List Sl
abbrev Sem1 := Rho → Rs Sl

/-! ### growing heaps: F below H; what is new may be told in F -/
structure Grow (F H F' H' : Hp) : Prop where
  f : Ex F F'
  h : Ex H H'
  s : Ex F' H'
  n : ∀ a o, F' a = some o → F a = some o ∨ H a = none
theorem Grow.refl {F H : Hp} (e : Ex F H) : Grow F H F H := ⟨Ex.refl F, Ex.refl H, e, fun _ _ h => .inl h⟩
theorem Grow.trans {F H F1 H1 F2 H2 : Hp} (a : Grow F H F1 H1) (b : Grow F1 H1 F2 H2) : Grow F H F2 H2 :=
  ⟨a.f.trans b.f, a.h.trans b.h, b.s, fun x o h => (b.n x o h).elim (fun q => a.n x o q) fun q => .inr (a.h.back q)⟩
theorem Grow.e {F H F' H' : Hp} (g : Grow F H F' H') : Ex F H' := g.f.trans g.s
/-- a new object, told in F -/
theorem Grow.new {F H : Hp} {p : Addr} {o : HO} (e : Ex F H) (h : H p = none) : Grow F H (upd F p o) (upd H p o) := by
  refine ⟨Ex.new (e.back h), Ex.new h, fun a u q => ?_, fun a u q => ?_⟩
  · by_cases z : a = p
    · subst z; rw [upd_same] at q ⊢; exact q
    · rw [upd_ne z] at q ⊢; exact e a u q
  · by_cases z : a = p
    · subst z; exact .inr h
    · rw [upd_ne z] at q; exact .inl q
/-- a new object, not told in F -/
theorem Grow.own {F H : Hp} {p : Addr} {o : HO} (e : Ex F H) (h : H p = none) : Grow F H F (upd H p o) :=
  ⟨Ex.refl F, Ex.new h, e.trans (Ex.new h), fun _ _ q => .inl q⟩
/-- all that is new is told -/
def full (F H H' : Hp) : Hp := fun a => match H a with
  | none => H' a
  | some _ => F a
theorem full_new {F H H' : Hp} {a : Addr} (h : H a = none) : full F H H' a = H' a := by unfold full; rw [h]
theorem full_old {F H H' : Hp} {a : Addr} {o : HO} (h : H a = some o) : full F H H' a = F a := by unfold full; rw [h]
theorem Grow.full {F H F' H' : Hp} (g : Grow F H F' H') : Ex F' (full F' H H') ∧ Grow F H (full F' H H') H' := by
  have e1 : Ex F' (G6.full F' H H') := fun a o q => by
    cases z : H a with
    | none => rw [full_new z]; exact g.s a o q
    | some u => rw [full_old z]; exact q
  refine ⟨e1, ⟨g.f.trans e1, g.h, fun a o q => ?_, fun a o q => ?_⟩⟩
  · cases z : H a with
    | none => rw [full_new z] at q; exact q
    | some u => rw [full_old z] at q; exact g.s a o q
  · cases z : H a with
    | none => exact .inr rfl
    | some u => rw [full_old z] at q; rw [← z]; exact g.n a o q

section
variable (T : Tx)
/-- the own rows of an own list -/
def Rows (F H : Hp) : List Addr → List (List Da) → Prop
  | [], [] => True
  | a :: as, xs :: xss => (∃ vs, H a = some (.lst vs) ∧ RepAll T F vs xs) ∧ Rows F H as xss
  | _, _ => False
/-- a value that a reading gave, H the heap ahead -/
def SlV (H F' H' : Hp) (v : V) : Sl → Prop
  | .dead => False
  | .sh d => Rep T F' v d
  | .ow xs => ∃ p vs, v = .ref p ∧ H p = none ∧ F' p = none ∧ H' p = some (.lst vs) ∧ RepAll T F' vs xs
  | .ow2 xss => ∃ p as, v = .ref p ∧ H p = none ∧ F' p = none ∧ H' p = some (.lst (as.map V.ref)) ∧ (p :: as).Nodup ∧ (∀ a ∈ as, H a = none ∧ F' a = none) ∧ Rows T F' H' as xss
end
section
variable {T : Tx} {F H F' H' : Hp}
theorem Rows.mono {F F' H H' : Hp} (e : Ex F F') : ∀ {as : List Addr} {xss : List (List Da)}, (∀ a ∈ as, H' a = H a) → Rows T F H as xss → Rows T F' H' as xss
  | [], [], _, _ => trivial
  | a :: as, xs :: xss, k, ⟨⟨vs, h, r⟩, t⟩ => ⟨⟨vs, by rw [k a List.mem_cons_self]; exact h, r.mono e⟩, Rows.mono e (fun b hb => k b (List.mem_cons_of_mem _ hb)) t⟩
  | [], _ :: _, _, h => h.elim
  | _ :: _, [], _, h => h.elim
theorem Rows.reps : ∀ {as : List Addr} {xss : List (List Da)}, Ex F F' → (∀ a ∈ as, F' a = H a) → Rows T F H as xss → RepAll T F' (as.map V.ref) (xss.map Da.lst)
  | [], [], _, _, _ => .nil
  | a :: as, xs :: xss, e, k, ⟨⟨vs, h, r⟩, t⟩ => .cons (.lst (by rw [k a List.mem_cons_self]; exact h) (r.mono e)) (Rows.reps e (fun b hb => k b (List.mem_cons_of_mem _ hb)) t)
  | [], _ :: _, _, _, h => h.elim
  | _ :: _, [], _, _, h => h.elim
theorem Rows.length : ∀ {as : List Addr} {xss : List (List Da)}, Rows T F H as xss → as.length = xss.length
  | [], [], _ => rfl
  | _ :: _, _ :: _, ⟨_, t⟩ => by simp [Rows.length t]
  | [], _ :: _, h => h.elim
  | _ :: _, [], h => h.elim
theorem SlV.back {H0 : Hp} {v : V} (e : Ex H0 H) : ∀ {s : Sl}, SlV T H F' H' v s → SlV T H0 F' H' v s
  | .sh _, h => h
  | .ow _, ⟨p, vs, h1, h2, h3, h4, h5⟩ => ⟨p, vs, h1, e.back h2, h3, h4, h5⟩
  | .ow2 _, ⟨p, as, h1, h2, h3, h4, h5, h6, h7⟩ => ⟨p, as, h1, e.back h2, h3, h4, h5, fun a ha => ⟨e.back (h6 a ha).1, (h6 a ha).2⟩, h7⟩
/-- seen as data -/
theorem SlV.see {v : V} {s : Sl} {d : Da} (g : Grow F H F' H') (h : SlV T H F' H' v s) (hv : s.view = some d) : ∃ F'', Grow F H F'' H' ∧ Rep T F'' v d := by
  obtain ⟨e1, g1⟩ := g.full
  refine ⟨full F' H H', g1, ?_⟩
  cases s with
  | dead => cases hv
  | sh d' => cases hv; exact Rep.mono e1 h
  | ow xs =>
    cases hv
    obtain ⟨p, vs, rfl, h2, h3, h4, h5⟩ := h
    exact .lst (by rw [full_new h2]; exact h4) (h5.mono e1)
  | ow2 xss =>
    cases hv
    obtain ⟨p, as, rfl, h2, h3, h4, h5, h6, h7⟩ := h
    exact .lst (by rw [full_new h2]; exact h4) (Rows.reps e1 (fun a ha => full_new (h6 a ha).1) h7)
end

/-! ### expressions -/
section
variable (T : Tx) (W : WX)
structure View (F : Hp) (σ : St) (ρ : Rho) : Prop where
  len : σ.length = ρ.length
  at_ : ∀ (i : Nat) (s : Sl) (d : Da), ρ[i]? = some s → s.view = some d → ∃ v, σ[i]? = some (some v) ∧ Rep T F v d
def Post (σ : St) (F H : Hp) (Q : VK) : Rs Sl → Prop
  | .ok s => ∀ v F' H', Grow F H F' H' → SlV T H F' H' v s → Q v H'
  | .ex c => ∀ C H', T.mg c = some (.ref C) → Ex H H' → W (.ref C) none σ H'
  | .no => False
def tD (f : Sem1) : TE := fun σ H Q => ∃ F ρ, Ex F H ∧ View T F σ ρ ∧ Post T W σ F H Q (f ρ)
def PostT (σ : St) (F H : Hp) (Q : Bool → Hp → Prop) : Rs Bool → Prop
  | .ok b => ∀ F' H', Grow F H F' H' → Q b H'
  | .ex c => ∀ C H', T.mg c = some (.ref C) → Ex H H' → W (.ref C) none σ H'
  | .no => False
def tT (f : Rho → Rs Bool) : TT := fun σ H Q => ∃ F ρ, Ex F H ∧ View T F σ ρ ∧ PostT T W σ F H Q (f ρ)
def PostA (σ : St) (F H : Hp) (Q : List V → Hp → Prop) : Rs (List Da) → Prop
  | .ok ds => ∀ vs F' H', Grow F H F' H' → RepAll T F' vs ds → Q vs H'
  | .ex c => ∀ C H', T.mg c = some (.ref C) → Ex H H' → W (.ref C) none σ H'
  | .no => False
def tA (f : Rho → Rs (List Da)) : TA := fun σ H Q => ∃ F ρ, Ex F H ∧ View T F σ ρ ∧ PostA T W σ F H Q (f ρ)
end
section
variable {T : Tx} {W : WX} {σ : St} {F H F' H' : Hp} {ρ : Rho}
theorem View.mono (e : Ex F F') (h : View T F σ ρ) : View T F' σ ρ := ⟨h.len, fun i s d a b => let ⟨v, x, y⟩ := h.at_ i s d a b; ⟨v, x, y.mono e⟩⟩
theorem Post.mono {Q : VK} (g : Grow F H F' H') : ∀ {r : Rs Sl}, Post T W σ F H Q r → Post T W σ F' H' Q r
  | .ok s, h => fun v F2 H2 g2 r => h v F2 H2 (g.trans g2) (r.back g.h)
  | .ex c, h => fun C H2 e1 e2 => h C H2 e1 (g.h.trans e2)
  | .no, h => h.elim
theorem PostT.mono {Q : Bool → Hp → Prop} (g : Grow F H F' H') : ∀ {r : Rs Bool}, PostT T W σ F H Q r → PostT T W σ F' H' Q r
  | .ok s, h => fun F2 H2 g2 => h F2 H2 (g.trans g2)
  | .ex c, h => fun C H2 e1 e2 => h C H2 e1 (g.h.trans e2)
  | .no, h => h.elim
theorem PostA.mono {Q : List V → Hp → Prop} (g : Grow F H F' H') : ∀ {r : Rs (List Da)}, PostA T W σ F H Q r → PostA T W σ F' H' Q r
  | .ok s, h => fun v F2 H2 g2 r => h v F2 H2 (g.trans g2) r
  | .ex c, h => fun C H2 e1 e2 => h C H2 e1 (g.h.trans e2)
  | .no, h => h.elim
/-- the exception's wish, whatever the kind of the result -/
def PEx (T : Tx) (W : WX) (σ : St) (H : Hp) (c : Str) : Prop := ∀ C H', T.mg c = some (.ref C) → Ex H H' → W (.ref C) none σ H'
theorem seq_d {α : Type} {P : Rs α → Prop} {f : Sem1} {k : Da → Rs α} {Q : VK} (e : Ex F H) (vw : View T F σ ρ) (hp : P ((dat (f ρ)).bind k)) (hno : ¬ P .no) (hex : ∀ c, P (.ex c) → PEx T W σ H c)
    (q : ∀ d v F' H', Grow F H F' H' → Rep T F' v d → P (k d) → Q v H') : tD T W f σ H Q := by
  refine ⟨F, ρ, e, vw, ?_⟩
  cases hf : f ρ with
  | no => rw [hf] at hp; exact (hno hp).elim
  | ex c => rw [hf] at hp; exact hex c hp
  | ok s =>
    rw [hf] at hp
    cases hs : s.view with
    | none => simp only [dat, hs, Rs.bind] at hp; exact (hno hp).elim
    | some d =>
      simp only [dat, hs, Rs.bind] at hp
      intro v F' H' g r
      obtain ⟨F2, g2, r2⟩ := r.see g hs
      exact q d v F2 H' g2 r2 hp
/-- an operand, then the rest -/
theorem bind_d {f : Sem1} {k : Da → Rs Sl} {Q Q' : VK} (e : Ex F H) (vw : View T F σ ρ) (hp : Post T W σ F H Q ((dat (f ρ)).bind k))
    (q : ∀ d v F' H', Grow F H F' H' → Rep T F' v d → Post T W σ F' H' Q (k d) → Q' v H') : tD T W f σ H Q' :=
  seq_d (P := Post T W σ F H Q) e vw hp (fun z => z) (fun _ z => z) fun d v F' H' g r h => q d v F' H' g r (h.mono g)
theorem bindT_d {f : Sem1} {k : Da → Rs Bool} {Q : Bool → Hp → Prop} {Q' : VK} (e : Ex F H) (vw : View T F σ ρ) (hp : PostT T W σ F H Q ((dat (f ρ)).bind k))
    (q : ∀ d v F' H', Grow F H F' H' → Rep T F' v d → PostT T W σ F' H' Q (k d) → Q' v H') : tD T W f σ H Q' :=
  seq_d (P := PostT T W σ F H Q) e vw hp (fun z => z) (fun _ z => z) fun d v F' H' g r h => q d v F' H' g r (h.mono g)
theorem bindA_d {f : Sem1} {k : Da → Rs (List Da)} {Q : List V → Hp → Prop} {Q' : VK} (e : Ex F H) (vw : View T F σ ρ) (hp : PostA T W σ F H Q ((dat (f ρ)).bind k))
    (q : ∀ d v F' H', Grow F H F' H' → Rep T F' v d → PostA T W σ F' H' Q (k d) → Q' v H') : tD T W f σ H Q' :=
  seq_d (P := PostA T W σ F H Q) e vw hp (fun z => z) (fun _ z => z) fun d v F' H' g r h => q d v F' H' g r (h.mono g)
/-- a test, then the rest -/
theorem bind_t {f : Rho → Rs Bool} {k : Bool → Rs Sl} {Q : VK} {Q' : Bool → Hp → Prop} (e : Ex F H) (vw : View T F σ ρ) (hp : Post T W σ F H Q ((f ρ).bind k))
    (q : ∀ b F' H', Grow F H F' H' → Post T W σ F' H' Q (k b) → Q' b H') : tT T W f σ H Q' := by
  refine ⟨F, ρ, e, vw, ?_⟩
  cases hf : f ρ with
  | no => rw [hf] at hp; exact hp.elim
  | ex c => rw [hf] at hp; exact hp
  | ok b =>
    rw [hf] at hp
    intro F' H' g
    exact q b F' H' g (Post.mono g hp)
theorem bindT_t {f : Rho → Rs Bool} {k : Bool → Rs Bool} {Q : Bool → Hp → Prop} {Q' : Bool → Hp → Prop} (e : Ex F H) (vw : View T F σ ρ) (hp : PostT T W σ F H Q ((f ρ).bind k))
    (q : ∀ b F' H', Grow F H F' H' → PostT T W σ F' H' Q (k b) → Q' b H') : tT T W f σ H Q' := by
  refine ⟨F, ρ, e, vw, ?_⟩
  cases hf : f ρ with
  | no => rw [hf] at hp; exact hp.elim
  | ex c => rw [hf] at hp; exact hp
  | ok b =>
    rw [hf] at hp
    intro F' H' g
    exact q b F' H' g (PostT.mono g hp)
theorem bind_a {f : Rho → Rs (List Da)} {k : List Da → Rs Sl} {Q : VK} {Q' : List V → Hp → Prop} (e : Ex F H) (vw : View T F σ ρ) (hp : Post T W σ F H Q ((f ρ).bind k))
    (q : ∀ ds vs F' H', Grow F H F' H' → RepAll T F' vs ds → Post T W σ F' H' Q (k ds) → Q' vs H') : tA T W f σ H Q' := by
  refine ⟨F, ρ, e, vw, ?_⟩
  cases hf : f ρ with
  | no => rw [hf] at hp; exact hp.elim
  | ex c => rw [hf] at hp; exact hp
  | ok ds =>
    rw [hf] at hp
    intro vs F' H' g r
    exact q ds vs F' H' g r (Post.mono g hp)
theorem bindA_a {f : Rho → Rs (List Da)} {k : List Da → Rs (List Da)} {Q : List V → Hp → Prop} {Q' : List V → Hp → Prop} (e : Ex F H) (vw : View T F σ ρ) (hp : PostA T W σ F H Q ((f ρ).bind k))
    (q : ∀ ds vs F' H', Grow F H F' H' → RepAll T F' vs ds → PostA T W σ F' H' Q (k ds) → Q' vs H') : tA T W f σ H Q' := by
  refine ⟨F, ρ, e, vw, ?_⟩
  cases hf : f ρ with
  | no => rw [hf] at hp; exact hp.elim
  | ex c => rw [hf] at hp; exact hp
  | ok ds =>
    rw [hf] at hp
    intro vs F' H' g r
    exact q ds vs F' H' g r (PostA.mono g hp)
end

theorem pe_imp {X : Cx} {e : Expr} {t t' : TE} (h : PE X e t) (i : ∀ σ H Q, t' σ H Q → t σ H Q) : PE X e t' := ⟨fun pins s σ H Q I hw => h.run pins s σ H Q I (i σ H Q hw)⟩
theorem pt_imp {X : Cx} {e : Expr} {t t' : TT} (h : PT X e t) (i : ∀ σ H Q, t' σ H Q → t σ H Q) : PT X e t' := ⟨fun pins s σ H Q I hw => h.run pins s σ H Q I (i σ H Q hw)⟩
theorem pw_imp {X : Cx} {e : Expr} {t t' : TT} (h : PW X e t) (i : ∀ σ H Q, t' σ H Q → t σ H Q) : PW X e t' := ⟨fun wh pins s σ H Q I hw => h.run wh pins s σ H Q I (i σ H Q hw)⟩
theorem pa_imp {X : Cx} {e : List Expr} {t t' : TA} (h : PA X e t) (i : ∀ σ H Q, t' σ H Q → t σ H Q) : PA X e t' := ⟨fun pos pins s σ H Q I hw => h.run pos pins s σ H Q I (i σ H Q hw)⟩
theorem ps_imp {X : Cx} {st : Stmt} {t t' : TS} (h : PS X st t) (i : ∀ D σ H, t' D σ H → t D σ H) : PS X st t' := ⟨fun pins s σ H D I hw => h.run pins s σ H D I (i D σ H hw)⟩
theorem pss_imp {X : Cx} {st : List Stmt} {t t' : TS} (h : PSs X st t) (i : ∀ D σ H, t' D σ H → t D σ H) : PSs X st t' := ⟨fun pins s σ H D I hw => h.run pins s σ H D I (i D σ H hw)⟩
/-- one of two readings -/
theorem pe_orR {X : Cx} {e : Expr} {t t' : TE} (h : PE X e t) (h' : PE X e t') : PE X e (fun σ H Q => t σ H Q ∨ t' σ H Q) :=
  ⟨fun pins s σ H Q I hw => hw.elim (h.run pins s σ H Q I) (h'.run pins s σ H Q I)⟩

/-! ### the readings: names, constants, operators -/
def eVar (i : Nat) : Sem1 := fun ρ => match ρ[i]? with
  | some s => (match s.view with
    | some d => .ok (.sh d)
    | none => .no)
  | none => .no
def eC (d : Da) : Sem1 := fun _ => .ok (.sh d)
def eOp (k : Da → Da → Option Sl) (f g : Sem1) : Sem1 := fun ρ => (dat (f ρ)).bind fun x => (dat (g ρ)).bind fun y => ofO (k x y)
def eUn (k : Da → Option Sl) (f : Sem1) : Sem1 := fun ρ => (dat (f ρ)).bind fun x => ofO (k x)
def RD2 (T : Tx) (r : R2) (k : Da → Da → Option Sl) : Prop := ∀ (F H : Hp) (x y : V) (d e : Da) (s : Sl) (Q : VK), Ex F H → Rep T F x d → Rep T F y e → k d e = some s →
  (∀ v F' H', Grow F H F' H' → SlV T H F' H' v s → Q v H') → r x y H Q
def RD1 (T : Tx) (r : V → Hp → VK → Prop) (k : Da → Option Sl) : Prop := ∀ (F H : Hp) (x : V) (d : Da) (s : Sl) (Q : VK), Ex F H → Rep T F x d → k d = some s →
  (∀ v F' H', Grow F H F' H' → SlV T H F' H' v s → Q v H') → r x H Q
def RDA (T : Tx) (r : List V → Hp → VK → Prop) (k : List Da → Option Sl) : Prop := ∀ (F H : Hp) (xs : List V) (ds : List Da) (s : Sl) (Q : VK), Ex F H → RepAll T F xs ds → k ds = some s →
  (∀ v F' H', Grow F H F' H' → SlV T H F' H' v s → Q v H') → r xs H Q
section
variable {X : Cx} {T : Tx} {W : WX} {a b c : Expr} {f g h : Sem1} {pos : Pos}
theorem post_sh {σ : St} {F H : Hp} {Q : VK} {v : V} {d : Da} (e : Ex F H) (r : Rep T F v d) (hp : Post T W σ F H Q (.ok (.sh d))) : Q v H := hp v F H (Grow.refl e) r
theorem e_var (i : Nat) {x : Str} (hN : X.N[i]? = some x := by rfl) (hv : Vis X.env.scope x := by first | exact Or.inl rfl | exact Or.inr (Or.inl rfl) | exact Or.inr (Or.inr rfl)) (hd : (x == ("__debug__" : Str)) = false := by decide)
    (hcd : (x == ("__classdict__" : Str)) = false := by decide) : PE X (.Name x pos) (tD T W (eVar i)) := by
  refine pe_imp (pe_var hN hv hd hcd) fun σ H Q ⟨F, ρ, e, vw, hp⟩ => ?_
  unfold eVar at hp
  cases h1 : ρ[i]? with
  | none => simp only [h1] at hp; exact hp.elim
  | some s =>
    simp only [h1] at hp
    cases h2 : s.view with
    | none => simp only [h2] at hp; exact hp.elim
    | some d =>
      simp only [h2] at hp
      obtain ⟨v, e1, e2⟩ := vw.at_ i s d h1 h2
      exact ⟨v, e1, post_sh e e2 hp⟩
theorem e_int {i : Int} {j : Nat} : PE X (.Constant (.int i) j pos) (tD T W (eC (.int i))) := pe_imp pe_int fun σ H Q ⟨F, ρ, e, vw, hp⟩ => post_sh e (.int i) hp
theorem e_str {x : Str} {j : Nat} : PE X (.Constant (.str x) j pos) (tD T W (eC (.str x))) := pe_imp pe_str fun σ H Q ⟨F, ρ, e, vw, hp⟩ => post_sh e (.str x) hp
theorem e_bl {x : Bool} {j : Nat} : PE X (.Constant (.bool x) j pos) (tD T W (eC (.bl x))) := pe_imp pe_bl fun σ H Q ⟨F, ρ, e, vw, hp⟩ => post_sh e (.bl x) hp
theorem e_non {j : Nat} : PE X (.Constant .none j pos) (tD T W (eC .non)) := pe_imp pe_non fun σ H Q ⟨F, ρ, e, vw, hp⟩ => post_sh e .non hp
theorem op_core {r : R2} {k : Da → Da → Option Sl} (hr : RD2 T r k) : ∀ σ H Q, tD T W (eOp k f g) σ H Q → tOp r (tD T W f) (tD T W g) σ H Q := fun σ H Q ⟨F, ρ, e, vw, hp⟩ => by
  refine bind_d e vw hp fun x v1 F1 H1 g1 r1 hp1 => ?_
  refine bind_d g1.s (vw.mono g1.f) hp1 fun y v2 F2 H2 g2 r2 hp2 => ?_
  cases hk : k x y with
  | none => rw [hk] at hp2; exact hp2.elim
  | some s =>
    rw [hk] at hp2
    exact hr F2 H2 v1 v2 x y s Q g2.s (r1.mono g2.f) r2 hk hp2
theorem e_op {op : Operator} {r : R2} {k : Da → Da → Option Sl} (hr : RD2 T r k) (ho : OpR X (binaryOp op) r) (ha : PE X a (tD T W f)) (hb : PE X b (tD T W g)) : PE X (.BinOp a op b pos) (tD T W (eOp k f g)) :=
  pe_imp (pe_op ho ha hb) (op_core hr)
theorem e_cmp {op : CmpOp} {r : R2} {k : Da → Da → Option Sl} (hr : RD2 T r k) (ho : OpR X (compareOp op) r) (ha : PE X a (tD T W f)) (hb : PE X b (tD T W g)) (hm : behindInMarks op b = false) : PE X (.Compare a [op] [b] pos) (tD T W (eOp k f g)) :=
  pe_imp (pe_cmpR ho ha hb hm) (op_core hr)
theorem e_un {op : UnaryOp} {r : V → Hp → VK → Prop} {k : Da → Option Sl} (hr : RD1 T r k) (ho : UnR X (unaryOp op) r) (ha : PE X a (tD T W f)) : PE X (.UnaryOp op a pos) (tD T W (eUn k f)) :=
  pe_imp (pe_un ho ha) fun σ H Q ⟨F, ρ, e, vw, hp⟩ => by
    refine bind_d e vw hp fun x v1 F1 H1 g1 r1 hp1 => ?_
    cases hk : k x with
    | none => rw [hk] at hp1; exact hp1.elim
    | some s =>
      rw [hk] at hp1
      exact hr F1 H1 v1 x s Q g1.s r1 hk hp1
/-! ints -/
def kI (p : Int → Int → Bool) (z : Int → Int → Da) : Da → Da → Option Sl
  | .int i, .int j => if p i j = true then some (.sh (z i j)) else none
  | _, _ => none
theorem rd_I0 {gV : Int → Int → V} {z : Int → Int → Da} (h : ∀ i j (H : Hp), Rep T H (gV i j) (z i j)) : RD2 T (rI0 gV) (kI (fun _ _ => true) z) := fun F H x y d e s Q ex rx ry hk q => by
  cases rx with
  | int i => cases ry with
    | int j =>
      simp only [kI, if_true, Option.some.injEq] at hk
      subst hk
      exact ⟨i, j, rfl, rfl, q _ F H (Grow.refl ex) (h i j F)⟩
    | _ => cases hk
  | _ => cases ry <;> cases hk
theorem rd_I {C : Int → Int → Prop} {p : Int → Int → Bool} {gV : Int → Int → V} {z : Int → Int → Da} (hc : ∀ i j, p i j = true → C i j) (h : ∀ i j (H : Hp), p i j = true → Rep T H (gV i j) (z i j)) : RD2 T (rI C gV) (kI p z) := fun F H x y d e s Q ex rx ry hk q => by
  cases rx with
  | int i => cases ry with
    | int j =>
      simp only [kI] at hk
      by_cases hp : p i j = true
      · rw [if_pos hp] at hk
        cases hk
        exact ⟨i, j, rfl, rfl, hc i j hp, q _ F H (Grow.refl ex) (h i j F hp)⟩
      · rw [if_neg hp] at hk; cases hk
    | _ => cases hk
  | _ => cases ry <;> cases hk
end
end G6

namespace G6
open PySem PySem.Spec PyProof.Rows L2

/-! ### lists and tuples as data -/
def asL : Da → Option (List Da)
  | .lst xs => some xs
  | .scr ns => some (ns.map .int)
  | _ => none
theorem Rep.list {T : Tx} {H : Hp} {v : V} {d : Da} {xs : List Da} (r : Rep T H v d) (h : asL d = some xs) : ∃ a vs, v = .ref a ∧ SqL T.K H a vs ∧ RepAll T H vs xs := by
  cases r with
  | lst e q => cases h; exact ⟨_, _, rfl, SqL.of e, q⟩
  | scr e => cases h; exact ⟨_, _, rfl, e, RepAll.ints _⟩
  | _ => cases h
theorem RepAll.int_of {T : Tx} {H : Hp} : ∀ {vs : List V} {ns : List Int}, RepAll T H vs (ns.map Da.int) → vs = ns.map V.int
  | _, [], .nil => rfl
  | _, n :: ns, .cons r t => by cases r; rw [RepAll.int_of t]; rfl
theorem RepAll.bl_of {T : Tx} {H : Hp} : ∀ {vs : List V} {ns : List Bool}, RepAll T H vs (ns.map Da.bl) → vs = ns.map V.bl
  | _, [], .nil => rfl
  | _, n :: ns, .cons r t => by cases r; rw [RepAll.bl_of t]; rfl

/-! ### tests -/
def fB (f : Sem1) : Rho → Rs Bool := fun ρ => (dat (f ρ)).bind fun d => match d with
  | .bl b => .ok b
  | _ => .no
def fAnd (f g : Rho → Rs Bool) : Rho → Rs Bool := fun ρ => (f ρ).bind fun b => match b with
  | true => g ρ
  | false => .ok false
def fOr (f g : Rho → Rs Bool) : Rho → Rs Bool := fun ρ => (f ρ).bind fun b => match b with
  | true => .ok true
  | false => g ρ
def fNot (f : Rho → Rs Bool) : Rho → Rs Bool := fun ρ => (f ρ).bind fun b => .ok (!b)
def eIf (t : Rho → Rs Bool) (f g : Sem1) : Sem1 := fun ρ => (t ρ).bind fun b => match b with
  | true => f ρ
  | false => g ρ
def eAnd (f g : Sem1) : Sem1 := fun ρ => (dat (f ρ)).bind fun d => match d with
  | .bl true => g ρ
  | .bl false => .ok (.sh (.bl false))
  | _ => .no
def eOr (f g : Sem1) : Sem1 := fun ρ => (dat (f ρ)).bind fun d => match d with
  | .bl true => .ok (.sh (.bl true))
  | .bl false => g ρ
  | _ => .no
def eNot (f : Sem1) : Sem1 := fun ρ => (dat (f ρ)).bind fun d => match d with
  | .bl b => .ok (.sh (.bl (!b)))
  | _ => .no
section
variable {X : Cx} {T : Tx} {W : WX} {a b c : Expr} {f g : Sem1} {t u : Rho → Rs Bool} {pos : Pos} {rest : List Expr}
theorem b_core {Q : Bool → Hp → Prop} : ∀ σ H, tT T W (fB f) σ H Q → tD T W f σ H fun x H1 => ∃ k, x = .bl k ∧ Q k H1 := fun σ H ⟨F, ρ, e, vw, hp⟩ =>
  bindT_d e vw hp fun d v F1 H1 g1 r1 hp1 => by
    cases r1 with
    | bl b => exact ⟨b, rfl, hp1 F1 H1 (Grow.refl g1.s)⟩
    | _ => exact hp1.elim
theorem t_val (h : PE X a (tD T W f)) (he : ∀ whole, isTrue a X.env whole = (do let v ← whole; standAt a.pos; holding [v] (truthy v)) := by intro _; rfl) : PT X a (tT T W (fB f)) :=
  pt_imp (pt_val h he) fun σ H Q h => b_core σ H h
theorem w_and1 (ha : PT X a (tT T W t)) : PW X (.BoolOp .And [a] pos) (tT T W t) := pw_and1 ha
theorem w_or1 (ha : PT X a (tT T W t)) : PW X (.BoolOp .Or [a] pos) (tT T W t) := pw_or1 ha
theorem w_and (ha : PT X a (tT T W t)) (hb : PW X (.BoolOp .And (b :: rest) pos) (tT T W u)) : PW X (.BoolOp .And (a :: b :: rest) pos) (tT T W (fAnd t u)) :=
  pw_imp (pw_and ha hb) fun σ H Q ⟨F, ρ, e, vw, hp⟩ => bindT_t e vw hp fun b F1 H1 g1 hp1 => by
    cases b with
    | true => exact ⟨F1, ρ, g1.s, vw.mono g1.f, hp1⟩
    | false => exact hp1 F1 H1 (Grow.refl g1.s)
theorem w_or (ha : PT X a (tT T W t)) (hb : PW X (.BoolOp .Or (b :: rest) pos) (tT T W u)) : PW X (.BoolOp .Or (a :: b :: rest) pos) (tT T W (fOr t u)) :=
  pw_imp (pw_or ha hb) fun σ H Q ⟨F, ρ, e, vw, hp⟩ => bindT_t e vw hp fun b F1 H1 g1 hp1 => by
    cases b with
    | false => exact ⟨F1, ρ, g1.s, vw.mono g1.f, hp1⟩
    | true => exact hp1 F1 H1 (Grow.refl g1.s)
theorem t_not (ha : PT X a (tT T W t)) : PT X (.UnaryOp .Not a pos) (tT T W (fNot t)) :=
  pt_imp (pt_not ha) fun σ H Q ⟨F, ρ, e, vw, hp⟩ => bindT_t e vw hp fun b F1 H1 g1 hp1 => hp1 F1 H1 (Grow.refl g1.s)
theorem e_if (hc : PT X c (tT T W t)) (ha : PE X a (tD T W f)) (hb : PE X b (tD T W g)) : PE X (.IfExp c a b pos) (tD T W (eIf t f g)) :=
  pe_imp (pe_ifExp hc ha hb) fun σ H Q ⟨F, ρ, e, vw, hp⟩ => bind_t e vw hp fun b F1 H1 g1 hp1 => by
    cases b with
    | true => exact ⟨F1, ρ, g1.s, vw.mono g1.f, hp1⟩
    | false => exact ⟨F1, ρ, g1.s, vw.mono g1.f, hp1⟩
theorem e_one {op : PySem.BoolOp} (h : PE X a (tD T W f)) : PE X (.BoolOp op [a] pos) (tD T W f) := pe_one h
theorem e_and (ha : PE X a (tD T W f)) (hb : PE X (.BoolOp .And (b :: rest) pos) (tD T W g)) : PE X (.BoolOp .And (a :: b :: rest) pos) (tD T W (eAnd f g)) :=
  pe_imp (pe_and ha hb) fun σ H Q ⟨F, ρ, e, vw, hp⟩ => bind_d e vw hp fun d v F1 H1 g1 r1 hp1 => by
    cases r1 with
    | bl b =>
      refine ⟨b, rfl, ?_⟩
      cases b with
      | true => exact ⟨F1, ρ, g1.s, vw.mono g1.f, hp1⟩
      | false => exact post_sh g1.s (.bl false) hp1
    | _ => exact hp1.elim
theorem e_or (ha : PE X a (tD T W f)) (hb : PE X (.BoolOp .Or (b :: rest) pos) (tD T W g)) : PE X (.BoolOp .Or (a :: b :: rest) pos) (tD T W (eOr f g)) :=
  pe_imp (pe_or ha hb) fun σ H Q ⟨F, ρ, e, vw, hp⟩ => bind_d e vw hp fun d v F1 H1 g1 r1 hp1 => by
    cases r1 with
    | bl b =>
      refine ⟨b, rfl, ?_⟩
      cases b with
      | false => exact ⟨F1, ρ, g1.s, vw.mono g1.f, hp1⟩
      | true => exact post_sh g1.s (.bl true) hp1
    | _ => exact hp1.elim
theorem e_not (ha : PE X a (tD T W f)) : PE X (.UnaryOp .Not a pos) (tD T W (eNot f)) :=
  pe_imp (pe_not ha) fun σ H Q ⟨F, ρ, e, vw, hp⟩ => bind_d e vw hp fun d v F1 H1 g1 r1 hp1 => by
    cases r1 with
    | bl b => exact ⟨b, rfl, post_sh g1.s (.bl (!b)) hp1⟩
    | _ => exact hp1.elim
end

/-! ### argument lists, displays -/
def aNil : Rho → Rs (List Da) := fun _ => .ok []
def aCons (f : Sem1) (fs : Rho → Rs (List Da)) : Rho → Rs (List Da) := fun ρ => (dat (f ρ)).bind fun d => (fs ρ).bind fun ds => .ok (d :: ds)
def eLst (fs : Rho → Rs (List Da)) : Sem1 := fun ρ => (fs ρ).bind fun ds => if ds.length ≤ 1000 then .ok (.ow ds) else .no
def eTup (fs : Rho → Rs (List Da)) : Sem1 := fun ρ => (fs ρ).bind fun ds => if ds.length ≤ 1000 then .ok (.sh (.tup ds)) else .no
theorem small_size {n : Nat} (h : n ≤ 1000) : n ≤ sizeLine := Nat.le_trans h (by decide)
theorem big_size {n : Nat} (h : n ≤ 1000000) : n ≤ sizeLine := Nat.le_trans h (by decide)
section
variable {X : Cx} {T : Tx} {W : WX} {e : Expr} {es : List Expr} {f : Sem1} {fs : Rho → Rs (List Da)} {pos : Pos}
theorem a_nil : PA X [] (tA T W aNil) := pa_imp pa_nil fun σ H Q ⟨F, ρ, e, vw, hp⟩ => hp [] F H (Grow.refl e) .nil
theorem a_cons (he : PE X e (tD T W f)) (hr : PA X es (tA T W fs)) (hs : starEach (e :: es) X.env = (false, eval e X.env) :: starEach es X.env := by rfl) : PA X (e :: es) (tA T W (aCons f fs)) :=
  pa_imp (pa_cons he hr hs) fun σ H Q ⟨F, ρ, e, vw, hp⟩ => bindA_d e vw hp fun d v F1 H1 g1 r1 hp1 => bindA_a g1.s (vw.mono g1.f) hp1 fun ds vs F2 H2 g2 r2 hp2 =>
    hp2 (v :: vs) F2 H2 (Grow.refl g2.s) (.cons (r1.mono g2.f) r2)
/-- a new list that holds the things vs -/
theorem new_ow {σ : St} {F H : Hp} {Q : VK} {vs : List V} {ds : List Da} {p : Addr} (e : Ex F H) (r : RepAll T F vs ds) (hp : Post T W σ F H Q (.ok (.ow ds))) (hn : H p = none) : Q (.ref p) (upd H p (.lst vs)) :=
  hp (.ref p) F _ (Grow.own e hn) ⟨p, vs, rfl, hn, e.back hn, upd_same, r⟩
theorem new_tup {σ : St} {F H : Hp} {Q : VK} {vs : List V} {ds : List Da} {p : Addr} (e : Ex F H) (r : RepAll T F vs ds) (hp : Post T W σ F H Q (.ok (.sh (.tup ds)))) (hn : H p = none) : Q (.ref p) (upd H p (.tup vs)) :=
  hp (.ref p) _ _ (Grow.new e hn) (.tup (SqT.of upd_same) (r.mono (Ex.new (e.back hn))))
theorem e_lst (h : PA X es (tA T W fs)) : PE X (.List es pos) (tD T W (eLst fs)) :=
  pe_imp (pe_lst h) fun σ H Q ⟨F, ρ, e, vw, hp⟩ => bind_a e vw hp fun ds vs F1 H1 g1 r1 hp1 => by
    by_cases hz : ds.length ≤ 1000
    · rw [if_pos hz] at hp1
      exact ⟨by rw [r1.length]; exact small_size hz, fun p hn => new_ow g1.s r1 hp1 hn⟩
    · rw [if_neg hz] at hp1; exact hp1.elim
theorem e_tup {x1 : Nat} (h : PA X es (tA T W fs)) : PE X (.Tuple es x1 pos) (tD T W (eTup fs)) :=
  pe_imp (pe_tup h) fun σ H Q ⟨F, ρ, e, vw, hp⟩ => bind_a e vw hp fun ds vs F1 H1 g1 r1 hp1 => by
    by_cases hz : ds.length ≤ 1000
    · rw [if_pos hz] at hp1
      exact ⟨by rw [r1.length]; exact small_size hz, fun p hn => new_tup g1.s r1 hp1 hn⟩
    · rw [if_neg hz] at hp1; exact hp1.elim
end

/-! ### built-in calls: k by the arguments -/
def eCall (k : List Da → Option Sl) (fs : Rho → Rs (List Da)) : Sem1 := fun ρ => (fs ρ).bind fun ds => ofO (k ds)
section
variable {X : Cx} {T : Tx} {W : WX} {e : Expr} {es : List Expr} {fs : Rho → Rs (List Da)} {pos p : Pos} {x : Str} {r : List V → Hp → VK → Prop} {k : List Da → Option Sl}
theorem call_core (hr : RDA T r k) : ∀ σ H Q, tD T W (eCall k fs) σ H Q → tCB r (tA T W fs) σ H Q := fun σ H Q ⟨F, ρ, e, vw, hp⟩ =>
  bind_a e vw hp fun ds vs F1 H1 g1 r1 hp1 => by
    cases hk : k ds with
    | none => rw [hk] at hp1; exact hp1.elim
    | some s => rw [hk] at hp1; exact hr F1 H1 vs ds s Q g1.s r1 hk hp1
theorem e_cb {id : String} (hr : RDA T r k) (hc : CallR X (.builtin id) r) (hg : Gl X x) (hm : X.mg x = none) (hv : bootBuiltins x = some (.builtin id)) (ha : PA X (e :: es) (tA T W fs)) (hn : x ≠ "__name__" := by decide)
    (hdb : (x == ("__debug__" : Str)) = false := by decide) (he : starEach (e :: es) X.env = (false, eval e X.env) :: starEach es X.env := by rfl) (hpl : (backTo pos (starEach es X.env)).any (·.1) = false := by rfl) :
    PE X (.Call (.Name x p) (e :: es) [] pos) (tD T W (eCall k fs)) := pe_imp (pe_callB hc hg hm hv ha hn hdb he hpl) (call_core hr)
theorem e_ct {id : String} (hr : RDA T r k) (hc : CallR X (.type id) r) (hg : Gl X x) (hm : X.mg x = none) (hv : bootBuiltins x = some (.type id)) (ha : PA X (e :: es) (tA T W fs)) (hn : x ≠ "__name__" := by decide)
    (hdb : (x == ("__debug__" : Str)) = false := by decide) (he : starEach (e :: es) X.env = (false, eval e X.env) :: starEach es X.env := by rfl) (hpl : (backTo pos (starEach es X.env)).any (·.1) = false := by rfl) :
    PE X (.Call (.Name x p) (e :: es) [] pos) (tD T W (eCall k fs)) := pe_imp (pe_callTy hc hg hm hv ha hn hdb he hpl) (call_core hr)
end
end G6

namespace G6
open PySem PySem.Spec PyProof.Rows L2

/-! ### == as data -/
def eqL {α β : Type} (q : α → β → Bool) : List α → List β → Bool
  | [], [] => true
  | x :: xs, y :: ys => q x y && eqL q xs ys
  | _, _ => false
def fits : Nat → Da → Bool
  | _, .non => true
  | _, .bl _ => true
  | _, .int _ => true
  | _, .str s => PyData.strOk s
  | n + 1, .lst xs => xs.all (fits n)
  | n + 1, .tup xs => xs.all (fits n)
  | _, _ => false
def eqF : Nat → Da → Da → Bool
  | _, .non, .non => true
  | _, .bl a, .bl b => a == b
  | _, .bl a, .int j => (if a then 1 else 0) == j
  | _, .int i, .bl b => i == (if b then 1 else 0)
  | _, .int i, .int j => i == j
  | _, .str x, .str y => x == y
  | n + 1, .lst xs, .lst ys => eqL (eqF n) xs ys
  | n + 1, .tup xs, .tup ys => eqL (eqF n) xs ys
  | _, _, _ => false
/-- the script as a list -/
def nrm : Da → Da
  | .scr ns => .lst (ns.map .int)
  | d => d
mutual
def Da.py : Da → PyData
  | .non => .none
  | .bl b => .bool b
  | .int i => .int i
  | .str s => .str s
  | .lst xs => .list (pyAll xs)
  | .tup xs => .tuple (pyAll xs)
  | .scr _ => .none
  | .emp => .none
  | .even _ => .none
  | .unl _ _ => .none
  | .kt _ => .none
  | .err => .none
def pyAll : List Da → List PyData
  | [] => []
  | d :: ds => d.py :: pyAll ds
end
theorem pyAll_map : ∀ xs : List Da, pyAll xs = xs.map Da.py
  | [] => rfl
  | d :: ds => by rw [pyAll, pyAll_map ds]; rfl
section
variable {T : Tx} {H : Hp}
theorem dp_ints {K : PySem.W.Frag} : ∀ ns : List Int, DpAll K H (ns.map V.int) (pyAll (ns.map Da.int))
  | [] => .nil
  | n :: ns => .cons (.int n) (dp_ints ns)
theorem Rep.dpN : ∀ (n : Nat) {v : V} {d : Da}, Rep T H v d → fits n d = true → Dp T.K H v d.py
  | n, _, _, .non, _ => .non
  | n, _, _, .bl b, _ => .bl b
  | n, _, _, .int i, _ => .int i
  | n, _, _, .str s, _ => .str s
  | 0, _, _, .lst _ _, h => by simp [fits] at h
  | 0, _, _, .tup _ _, h => by simp [fits] at h
  | n + 1, _, _, .lst (ds := ds) e r, h => by
    simp only [fits] at h
    exact .lst (SqL.of e) (go n ds r h)
  | n + 1, _, _, .tup (ds := ds) e r, h => by
    simp only [fits] at h
    exact .tup e (go n ds r h)
  | n, _, _, .scr e, h => by cases n <;> simp [fits] at h
  | n, _, _, .emp _, h => by cases n <;> simp [fits] at h
  | n, _, _, .even _ _, h => by cases n <;> simp [fits] at h
  | n, _, _, .unl _ _ _, h => by cases n <;> simp [fits] at h
  | n, _, _, .kt _ _ _ _ _, h => by cases n <;> simp [fits] at h
  | n, _, _, .err _, h => by cases n <;> simp [fits] at h
where go (n : Nat) : ∀ (ds : List Da) {vs : List V}, RepAll T H vs ds → ds.all (fits n) = true → DpAll T.K H vs (pyAll ds)
  | [], _, .nil, _ => .nil
  | d :: ds, _, .cons r t, h => by
    rw [List.all_cons, Bool.and_eq_true] at h
    exact .cons (Rep.dpN n r h.1) (go n ds t h.2)
theorem Rep.dp {v : V} {d : Da} (r : Rep T H v d) (h : fits 8 (nrm d) = true) : Dp T.K H v (nrm d).py := by
  cases r with
  | scr e => exact .lst e (dp_ints _)
  | non => exact Rep.dpN (T := T) 8 .non h
  | bl b => exact Rep.dpN (T := T) 8 (.bl b) h
  | int i => exact Rep.dpN (T := T) 8 (.int i) h
  | str s => exact Rep.dpN (T := T) 8 (.str s) h
  | lst e r => exact Rep.dpN 8 (.lst e r) h
  | tup e r => exact Rep.dpN 8 (.tup e r) h
  | emp e => exact Rep.dpN 8 (.emp e) h
  | even e r => exact Rep.dpN 8 (.even e r) h
  | unl e r q => exact Rep.dpN 8 (.unl e r q) h
  | kt e1 e2 e3 e r => exact Rep.dpN 8 (.kt e1 e2 e3 e r) h
  | err e => exact Rep.dpN 8 (.err e) h
mutual
theorem fits_lay : ∀ (n : Nat) (d : Da), fits n d = true → d.py.canLay0 = true ∧ d.py.depth ≤ n + 2
  | n, .non, _ => by simp [Da.py, PyData.canLay0, PyData.depth]
  | n, .bl b, _ => by simp [Da.py, PyData.canLay0, PyData.depth]
  | n, .int i, _ => by simp [Da.py, PyData.canLay0, PyData.depth]
  | n, .str s, h => by
    have h' : PyData.strOk s = true := by simpa [fits] using h
    simp [Da.py, PyData.canLay0, PyData.depth, h']
  | 0, .lst _, h => by simp [fits] at h
  | 0, .tup _, h => by simp [fits] at h
  | n + 1, .lst xs, h => by
    have h' : xs.all (fits n) = true := by simpa [fits] using h
    obtain ⟨h1, h2⟩ := fits_lays n xs h'
    simp only [Da.py, PyData.canLay0, PyData.depth]
    exact ⟨h1, by omega⟩
  | n + 1, .tup xs, h => by
    have h' : xs.all (fits n) = true := by simpa [fits] using h
    obtain ⟨h1, h2⟩ := fits_lays n xs h'
    simp only [Da.py, PyData.canLay0, PyData.depth]
    exact ⟨h1, by omega⟩
  | n, .scr _, h => by cases n <;> simp [fits] at h
  | n, .emp, h => by cases n <;> simp [fits] at h
  | n, .even _, h => by cases n <;> simp [fits] at h
  | n, .unl _ _, h => by cases n <;> simp [fits] at h
  | n, .kt _, h => by cases n <;> simp [fits] at h
  | n, .err, h => by cases n <;> simp [fits] at h
theorem fits_lays : ∀ (n : Nat) (ds : List Da), ds.all (fits n) = true → PyData.canLayAll0 (pyAll ds) = true ∧ PyData.depthAll (pyAll ds) ≤ n + 2
  | n, [], _ => by simp [pyAll, PyData.canLayAll0, PyData.depthAll]
  | n, d :: ds, h => by
    rw [List.all_cons, Bool.and_eq_true] at h
    obtain ⟨h1, h2⟩ := fits_lay n d h.1
    obtain ⟨h3, h4⟩ := fits_lays n ds h.2
    simp only [pyAll, PyData.canLayAll0, PyData.depthAll, h1, h3]
    exact ⟨rfl, by omega⟩
end
theorem fits_shaped {d : Da} (h : fits 8 d = true) : SeqAt.shaped d.py = true := by
  obtain ⟨h1, h2⟩ := fits_lay 8 d h
  unfold SeqAt.shaped
  rw [h1, Bool.true_and]
  exact decide_eq_true (by omega)
end
mutual
theorem eqF_eqv : ∀ (n : Nat) (d e : Da), fits n d = true → fits n e = true → eqF n d e = PyData.eqv d.py e.py
  | 0, d, e, h, h' => by
    cases d <;> cases e <;> first | (simp [fits] at h; done) | (simp [fits] at h'; done) | simp [eqF, Da.py, PyData.eqv]
  | n + 1, .lst xs, .lst ys, h, h' => by
    simp only [fits] at h h'
    simp only [eqF, Da.py, PyData.eqv]
    exact eqF_eqvs n xs ys h h'
  | n + 1, .tup xs, .tup ys, h, h' => by
    simp only [fits] at h h'
    simp only [eqF, Da.py, PyData.eqv]
    exact eqF_eqvs n xs ys h h'
  | n + 1, .non, e, h, h' => by cases e <;> first | (simp [fits] at h'; done) | simp [eqF, Da.py, PyData.eqv]
  | n + 1, .bl _, e, h, h' => by cases e <;> first | (simp [fits] at h'; done) | simp [eqF, Da.py, PyData.eqv]
  | n + 1, .int _, e, h, h' => by cases e <;> first | (simp [fits] at h'; done) | simp [eqF, Da.py, PyData.eqv]
  | n + 1, .str _, e, h, h' => by cases e <;> first | (simp [fits] at h'; done) | simp [eqF, Da.py, PyData.eqv]
  | n + 1, .emp, e, h, h' => by simp [fits] at h
  | n + 1, .scr _, e, h, h' => by simp [fits] at h
  | n + 1, .even _, e, h, h' => by simp [fits] at h
  | n + 1, .unl _ _, e, h, h' => by simp [fits] at h
  | n + 1, .kt _, e, h, h' => by simp [fits] at h
  | n + 1, .err, e, h, h' => by simp [fits] at h
  | n + 1, .lst _, .non, h, h' => by simp [eqF, Da.py, PyData.eqv]
  | n + 1, .lst _, .bl _, h, h' => by simp [eqF, Da.py, PyData.eqv]
  | n + 1, .lst _, .int _, h, h' => by simp [eqF, Da.py, PyData.eqv]
  | n + 1, .lst _, .str _, h, h' => by simp [eqF, Da.py, PyData.eqv]
  | n + 1, .lst _, .tup _, h, h' => by simp [eqF, Da.py, PyData.eqv]
  | n + 1, .lst _, .scr _, h, h' => by simp [fits] at h'
  | n + 1, .lst _, .emp, h, h' => by simp [fits] at h'
  | n + 1, .lst _, .even _, h, h' => by simp [fits] at h'
  | n + 1, .lst _, .unl _ _, h, h' => by simp [fits] at h'
  | n + 1, .lst _, .kt _, h, h' => by simp [fits] at h'
  | n + 1, .lst _, .err, h, h' => by simp [fits] at h'
  | n + 1, .tup _, .non, h, h' => by simp [eqF, Da.py, PyData.eqv]
  | n + 1, .tup _, .bl _, h, h' => by simp [eqF, Da.py, PyData.eqv]
  | n + 1, .tup _, .int _, h, h' => by simp [eqF, Da.py, PyData.eqv]
  | n + 1, .tup _, .str _, h, h' => by simp [eqF, Da.py, PyData.eqv]
  | n + 1, .tup _, .lst _, h, h' => by simp [eqF, Da.py, PyData.eqv]
  | n + 1, .tup _, .scr _, h, h' => by simp [fits] at h'
  | n + 1, .tup _, .emp, h, h' => by simp [fits] at h'
  | n + 1, .tup _, .even _, h, h' => by simp [fits] at h'
  | n + 1, .tup _, .unl _ _, h, h' => by simp [fits] at h'
  | n + 1, .tup _, .kt _, h, h' => by simp [fits] at h'
  | n + 1, .tup _, .err, h, h' => by simp [fits] at h'
theorem eqF_eqvs : ∀ (n : Nat) (ds es : List Da), ds.all (fits n) = true → es.all (fits n) = true → eqL (eqF n) ds es = PyData.eqvAll (pyAll ds) (pyAll es)
  | n, [], [], _, _ => by simp [eqL, pyAll, PyData.eqvAll]
  | n, [], _ :: _, _, _ => by simp [eqL, pyAll, PyData.eqvAll]
  | n, _ :: _, [], _, _ => by simp [eqL, pyAll, PyData.eqvAll]
  | n, d :: ds, e :: es, h, h' => by
    rw [List.all_cons, Bool.and_eq_true] at h h'
    simp only [eqL, pyAll, PyData.eqvAll]
    rw [eqF_eqvs n ds es h.2 h'.2, eqF_eqv n d e h.1 h'.1]
end
end G6

namespace G6
open PySem PySem.Spec PyProof.Rows L2
section
variable {X : Cx} {T : Tx}
/-! ### + - * // % ** -/
def kAdd : Da → Da → Option Sl
  | .int i, .int j => some (.sh (.int (i + j)))
  | .lst xs, .lst ys => if xs.length + ys.length ≤ 1000000 then some (.ow (xs ++ ys)) else none
  | _, _ => none
def rAddA : R2 := fun x y H Q => rI0 (fun i j => .int (i + j)) x y H Q ∨ rCat x y H Q
theorem op_addA : OpR X (binaryOp .Add) rAddA := op_add.or op_cat
theorem rd_add : RD2 T rAddA kAdd := fun F H x y d e s Q ex rx ry hk q => by
  cases rx with
  | int i => cases ry with
    | int j => cases hk; exact .inl ⟨i, j, rfl, rfl, q _ F H (Grow.refl ex) (.int _)⟩
    | _ => cases hk
  | lst h1 r1 => cases ry with
    | lst h2 r2 =>
      simp only [kAdd] at hk
      split at hk
      · cases hk
        rename_i hz
        refine .inr ⟨_, _, _, _, rfl, rfl, ex _ _ h1, ex _ _ h2, by rw [r1.length, r2.length]; exact big_size hz, fun p hn => ?_⟩
        exact q _ F _ (Grow.own ex hn) ⟨p, _, rfl, hn, ex.back hn, upd_same, r1.append r2⟩
      · cases hk
    | _ => cases hk
  | _ => cases hk
def kSub : Da → Da → Option Sl := kI (fun _ _ => true) fun i j => .int (i - j)
theorem rd_sub : RD2 T (rI0 fun i j => .int (i - j)) kSub := rd_I0 fun i j H => .int _
def mulOk (i j : Int) : Bool := decide (i.natAbs < 2 ^ 64) || decide (j.natAbs < 2 ^ 64) || decide (i.natAbs.log2 + j.natAbs.log2 < 100000000)
theorem mulOk.ok {i j : Int} (h : mulOk i j = true) : IntMulOk i j := by
  unfold mulOk at h
  simp only [Bool.or_eq_true, decide_eq_true_eq] at h
  rcases h with (h | h) | h
  · exact IntMulOk.of_left (intBits_le_64 (by omega) (by omega))
  · exact IntMulOk.of_right (intBits_le_64 (by omega) (by omega))
  · have b : ∀ x : Int, Builtin.Int.intBits x ≤ x.natAbs.log2 + 1 := fun x => by
      unfold Builtin.Int.intBits
      split <;> omega
    have h1 := b i
    have h2 := b j
    have e : bitsLine = 134217728 := by decide
    unfold IntMulOk
    intro z
    rw [Bool.and_eq_true] at z
    have z2 := z.2
    unfold Builtin.Int.intTooBig at z2
    have z3 := of_decide_eq_true z2
    rw [e] at z3
    omega
def kMul : Da → Da → Option Sl := kI mulOk fun i j => .int (i * j)
theorem op_mulA : OpR X (binaryOp .Mult) (rI (fun i j => IntMulOk i j) fun i j => .int (i * j)) := opI fun _ _ _ _ _ _ _ hc q => mul_int q hc
theorem rd_mul : RD2 T (rI (fun i j => IntMulOk i j) fun i j => .int (i * j)) kMul := rd_I (fun i j h => mulOk.ok h) fun i j H _ => .int _
def kRep : Da → Da → Option Sl
  | .lst xs, .int k => if 0 ≤ k ∧ k ≤ 1000 ∧ xs.length ≤ 1000 then some (.ow (List.replicate k.toNat xs).flatten) else none
  | _, _ => none
theorem RepAll.rep {H : Hp} {vs : List V} {ds : List Da} (h : RepAll T H vs ds) : ∀ k : Nat, RepAll T H (List.replicate k vs).flatten (List.replicate k ds).flatten
  | 0 => .nil
  | k + 1 => by
    rw [List.replicate_succ, List.replicate_succ, List.flatten_cons, List.flatten_cons]
    exact h.append (RepAll.rep h k)
theorem rd_rep : RD2 T rRep kRep := fun F H x y d e s Q ex rx ry hk q => by
  cases rx with
  | lst h1 r1 => cases ry with
    | int k =>
      simp only [kRep] at hk
      split at hk
      · cases hk
        rename_i hz
        obtain ⟨z1, z2, z3⟩ := hz
        refine ⟨_, k, _, rfl, rfl, ex _ _ h1, by omega, by omega, ?_, fun p hn => ?_⟩
        · rw [r1.length]
          refine big_size ?_
          have : k.toNat ≤ 1000 := by omega
          calc _ ≤ 1000 * 1000 := Nat.mul_le_mul z3 this
            _ = 1000000 := by decide
        · exact q _ F _ (Grow.own ex hn) ⟨p, _, rfl, hn, ex.back hn, upd_same, r1.rep _⟩
      · cases hk
    | _ => cases hk
  | _ => cases hk
def kMod : Da → Da → Option Sl := kI (fun _ j => decide (0 < j)) fun i j => .int (i % j)
theorem rd_mod : RD2 T (rI (fun _ j => 0 < j) fun i j => .int (i % j)) kMod := rd_I (fun _ _ h => of_decide_eq_true h) fun i j H _ => .int _
def divOk (_ j : Int) : Bool := decide (0 < j) && decide (j.natAbs.log2 < 9000)
def kDiv : Da → Da → Option Sl := kI divOk fun i j => .int (i / j)
theorem divOk.ok {i j : Int} (h : divOk i j = true) : CDivW i j := by
  unfold divOk at h
  simp only [Bool.and_eq_true, decide_eq_true_eq] at h
  exact h
theorem rd_div : RD2 T (rI CDivW fun i j => .int (i / j)) kDiv := rd_I (fun _ _ h => divOk.ok h) fun i j H _ => .int _
def powOk (i j : Int) : Bool := decide (0 ≤ j) && decide (j ≤ 1000000) && decide (i.natAbs < 2 ^ 64)
def kPow : Da → Da → Option Sl := kI powOk fun i j => .int (i ^ j.toNat)
theorem rd_pow : RD2 T (rI CPow fun i j => .int (i ^ j.toNat)) kPow := rd_I (fun _ _ h => by
  unfold powOk at h
  simp only [Bool.and_eq_true, decide_eq_true_eq] at h
  exact ⟨h.1.1, h.1.2, h.2⟩) fun i j H _ => .int _
def kNeg : Da → Option Sl
  | .int i => some (.sh (.int (-i)))
  | _ => none
theorem rd_neg : RD1 T (rU fun i => .int (-i)) kNeg := fun F H x d s Q ex rx hk q => by
  cases rx with
  | int i => cases hk; exact ⟨i, rfl, q _ F H (Grow.refl ex) (.int _)⟩
  | _ => cases hk
/-! ### comparisons -/
def kLt : Da → Da → Option Sl := kI (fun _ _ => true) fun i j => .bl (decide (i < j))
def kLe : Da → Da → Option Sl := kI (fun _ _ => true) fun i j => .bl (decide (i ≤ j))
def kGt : Da → Da → Option Sl := kI (fun _ _ => true) fun i j => .bl (decide (j < i))
def kGe : Da → Da → Option Sl := kI (fun _ _ => true) fun i j => .bl (decide (j ≤ i))
theorem rd_lt : RD2 T (rI0 fun i j => .bl (decide (i < j))) kLt := rd_I0 fun i j H => .bl _
theorem rd_le : RD2 T (rI0 fun i j => .bl (decide (i ≤ j))) kLe := rd_I0 fun i j H => .bl _
theorem rd_gt : RD2 T (rI0 fun i j => .bl (decide (j < i))) kGt := rd_I0 fun i j H => .bl _
theorem rd_ge : RD2 T (rI0 fun i j => .bl (decide (j ≤ i))) kGe := rd_I0 fun i j H => .bl _
def kEq (d e : Da) : Option Sl := if (fits 8 (nrm d) && fits 8 (nrm e)) = true then some (.sh (.bl (eqF 8 (nrm d) (nrm e)))) else none
def kNe (d e : Da) : Option Sl := if (fits 8 (nrm d) && fits 8 (nrm e)) = true then some (.sh (.bl (!eqF 8 (nrm d) (nrm e)))) else none
theorem Dp.mono {K : PySem.W.Frag} {H H' : Hp} (e : Ex H H') : ∀ {v : V} {d : PyData}, Dp K H v d → Dp K H' v d := by
  intro v d h
  exact Dp.rec (motive_1 := fun v d _ => Dp K H' v d) (motive_2 := fun v d _ => DpAll K H' v d) .non .bl .int .str (fun h _ ih => .lst (ex_l e h) ih) (fun h _ ih => .tup (ex_t e h) ih) .nil (fun _ _ i1 i2 => .cons i1 i2) h
theorem rd_eq : RD2 T (rEqD T.K) kEq := fun F H x y d e s Q ex rx ry hk q => by
  unfold kEq at hk
  split at hk
  · rename_i hz
    rw [Bool.and_eq_true] at hz
    cases hk
    refine ⟨_, _, Dp.mono ex (rx.dp hz.1), Dp.mono ex (ry.dp hz.2), fits_shaped hz.1, fits_shaped hz.2, ?_⟩
    rw [← eqF_eqv 8 _ _ hz.1 hz.2]
    exact q _ F H (Grow.refl ex) (.bl _)
  · cases hk
theorem rd_ne : RD2 T (rNeD T.K) kNe := fun F H x y d e s Q ex rx ry hk q => by
  unfold kNe at hk
  split at hk
  · rename_i hz
    rw [Bool.and_eq_true] at hz
    cases hk
    refine ⟨_, _, Dp.mono ex (rx.dp hz.1), Dp.mono ex (ry.dp hz.2), fits_shaped hz.1, fits_shaped hz.2, ?_⟩
    rw [← eqF_eqv 8 _ _ hz.1 hz.2]
    exact q _ F H (Grow.refl ex) (.bl _)
  · cases hk
/-- is True, is not True -/
def kIsB : Da → Da → Option Sl
  | .bl a, .bl b => some (.sh (.bl (decide (a = b))))
  | _, _ => none
def kNotB : Da → Da → Option Sl
  | .bl a, .bl b => some (.sh (.bl (!decide (a = b))))
  | _, _ => none
theorem rd_isB : RD2 T rIsB kIsB := fun F H x y d e s Q ex rx ry hk q => by
  cases rx with
  | bl a => cases ry with
    | bl b => cases hk; exact ⟨a, b, rfl, rfl, q _ F H (Grow.refl ex) (.bl _)⟩
    | _ => cases hk
  | _ => cases hk
theorem rd_notB : RD2 T rNotB kNotB := fun F H x y d e s Q ex rx ry hk q => by
  cases rx with
  | bl a => cases ry with
    | bl b => cases hk; exact ⟨a, b, rfl, rfl, q _ F H (Grow.refl ex) (.bl _)⟩
    | _ => cases hk
  | _ => cases hk
/-! ### in, not in -/
def flatD : Da → Bool
  | .non => true
  | .bl _ => true
  | .int _ => true
  | .str _ => true
  | _ => false
def kInB (d e : Da) : Option Bool := match nrm e with
  | .lst ys => if (fits 8 (nrm d) && fits 8 (.lst ys)) = true then some (ys.any fun z => eqF 8 z (nrm d)) else none
  | .tup ys => if (flatD d && ys.all flatD) = true then some (ys.any fun z => eqF 8 z d) else none
  | _ => none
def kIn (d e : Da) : Option Sl := (kInB d e).map fun b => .sh (.bl b)
def kNotIn (d e : Da) : Option Sl := (kInB d e).map fun b => .sh (.bl (!b))
def rInA (K : PySem.W.Frag) : R2 := fun x y H Q => rInD K x y H Q ∨ rIn K false x y H Q
def rNotInA (K : PySem.W.Frag) : R2 := fun x y H Q => rNotInD K x y H Q ∨ rIn K true x y H Q
theorem op_inA (hu : X.A.units + 65 < cLine) : OpR X (compareOp .In) (rInA X.K) := (op_inD hu).or op_in_seq
theorem op_notInA (hu : X.A.units + 65 < cLine) : OpR X (compareOp .NotIn) (rNotInA X.K) := (op_notInD hu).or op_notIn_seq
theorem flat_v {H : Hp} {v : V} {d : Da} (r : Rep T H v d) (h : flatD d = true) : flatV v = true := by
  cases r <;> first | rfl | cases h
theorem flats_v {H : Hp} : ∀ {vs : List V} {ds : List Da}, RepAll T H vs ds → ds.all flatD = true → vs.all flatV = true
  | _, _, .nil, _ => rfl
  | _, _, .cons r t, h => by
    rw [List.all_cons, Bool.and_eq_true] at h
    rw [List.all_cons, flat_v r h.1, flats_v t h.2] <;> rfl
theorem eqV_eqF {H : Hp} {x y : V} {d e : Da} (rx : Rep T H x d) (ry : Rep T H y e) (hd : flatD d = true) (he : flatD e = true) : eqV x y = eqF 8 d e := by
  cases rx <;> first | (cases hd; done) | skip
  all_goals cases ry <;> first | (cases he; done) | rfl
theorem any_flat {H : Hp} {x : V} {d : Da} (rx : Rep T H x d) (hd : flatD d = true) : ∀ {vs : List V} {ds : List Da}, RepAll T H vs ds → ds.all flatD = true → inV x vs = ds.any fun z => eqF 8 z d
  | _, _, .nil, _ => rfl
  | _, _, .cons r t, h => by
    rw [List.all_cons, Bool.and_eq_true] at h
    have := any_flat rx hd t h.2
    unfold inV at this ⊢
    rw [List.any_cons, List.any_cons, this, eqV_eqF r rx h.1 hd]
theorem any_pys {d : Da} (hd : fits 8 d = true) : ∀ {ds : List Da}, ds.all (fits 7) = true → (pyAll ds).any (fun z => PyData.eqv z d.py) = ds.any fun z => eqF 8 z d
  | [], _ => rfl
  | x :: xs, h => by
    rw [List.all_cons, Bool.and_eq_true] at h
    have hx : fits 8 x = true := by
      have : ∀ (n : Nat) (y : Da), fits n y = true → fits (n + 1) y = true := by
        intro n
        induction n with
        | zero => intro y hy; cases y <;> first | exact hy | (simp [fits] at hy)
        | succ n ih =>
          intro y hy
          cases y with
          | lst xs =>
            simp only [fits] at hy ⊢
            rw [List.all_eq_true] at hy ⊢
            exact fun z hz => ih z (hy z hz)
          | tup xs =>
            simp only [fits] at hy ⊢
            rw [List.all_eq_true] at hy ⊢
            exact fun z hz => ih z (hy z hz)
          | _ => first | exact hy | (simp [fits] at hy)
      exact this 7 x h.1
    rw [pyAll, List.any_cons, List.any_cons, any_pys hd h.2, eqF_eqv 8 x d hx hd]
theorem in_core {F H : Hp} {x y : V} {d e : Da} {b : Bool} (ex : Ex F H) (rx : Rep T F x d) (ry : Rep T F y e) (hk : kInB d e = some b) :
    (∃ d' ds, Dp T.K H x d' ∧ Dp T.K H y (.list ds) ∧ SeqAt.shaped d' = true ∧ SeqAt.shaped (.list ds) = true ∧ (ds.any fun z => PyData.eqv z d') = b) ∨
    (∃ p xs, y = .ref p ∧ (SqL T.K H p xs ∨ SqT T.K H p xs) ∧ flatV x = true ∧ xs.all flatV = true ∧ inV x xs = b) := by
  have dl : ∀ ys, nrm e = .lst ys → kInB d e = some b → (∃ d' ds, Dp T.K H x d' ∧ Dp T.K H y (.list ds) ∧ SeqAt.shaped d' = true ∧ SeqAt.shaped (.list ds) = true ∧ (ds.any fun z => PyData.eqv z d') = b) := by
    intro ys he hk
    unfold kInB at hk
    rw [he] at hk
    dsimp only at hk
    split at hk
    · rename_i hz
      rw [Bool.and_eq_true] at hz
      cases hk
      have h2 := hz.2
      rw [← he] at h2
      have q := Dp.mono ex (ry.dp h2)
      rw [he] at q
      refine ⟨_, pyAll ys, Dp.mono ex (rx.dp hz.1), q, fits_shaped hz.1, ?_, ?_⟩
      · have := fits_shaped hz.2
        exact this
      · exact any_pys hz.1 (by have := hz.2; simpa [fits] using this)
    · cases hk
  cases ry with
  | lst h1 r1 => exact .inl (dl _ rfl hk)
  | scr h1 => exact .inl (dl _ rfl hk)
  | tup h1 r1 =>
    right
    simp only [kInB, nrm] at hk
    split at hk
    · rename_i hz
      rw [Bool.and_eq_true] at hz
      cases hk
      exact ⟨_, _, rfl, .inr (ex_t ex h1), flat_v rx hz.1, flats_v r1 hz.2, any_flat rx hz.1 r1 hz.2⟩
    · cases hk
  | _ => cases hk
theorem rd_in : RD2 T (rInA T.K) kIn := fun F H x y d e s Q ex rx ry hk q => by
  unfold kIn at hk
  cases hb : kInB d e with
  | none => rw [hb] at hk; cases hk
  | some b =>
    rw [hb] at hk; cases hk
    have q' := q _ F H (Grow.refl ex) (.bl b)
    rcases in_core ex rx ry hb with ⟨d', ds, h1, h2, h3, h4, h5⟩ | ⟨p, xs, h1, h2, h3, h4, h5⟩
    · exact .inl ⟨d', ds, h1, h2, h3, h4, by rw [h5]; exact q'⟩
    · exact .inr ⟨p, xs, h1, h2, h3, h4, by rw [h5]; exact q'⟩
theorem rd_notIn : RD2 T (rNotInA T.K) kNotIn := fun F H x y d e s Q ex rx ry hk q => by
  unfold kNotIn at hk
  cases hb : kInB d e with
  | none => rw [hb] at hk; cases hk
  | some b =>
    rw [hb] at hk; cases hk
    have q' := q _ F H (Grow.refl ex) (.bl (!b))
    rcases in_core ex rx ry hb with ⟨d', ds, h1, h2, h3, h4, h5⟩ | ⟨p, xs, h1, h2, h3, h4, h5⟩
    · exact .inl ⟨d', ds, h1, h2, h3, h4, by rw [h5]; exact q'⟩
    · exact .inr ⟨p, xs, h1, h2, h3, h4, by rw [h5]; exact q'⟩
/-! ### x[i] -/
def kIx (d e : Da) : Option Sl := match e with
  | .int i => (match asL d with
    | some xs => (atI xs i).map Sl.sh
    | none => (match d with
      | .tup xs => (atI xs i).map Sl.sh
      | .kt xs => (atI xs i).map Sl.sh
      | _ => none))
  | _ => none
def rIxA (K : PySem.W.Frag) : R2 := fun x y H Q => rIxL K x y H Q ∨ rIxT K x y H Q
theorem ix_all : IxR X (rIxA X.K) := ix_list.or ix_tup
theorem atI_rep {H : Hp} {vs : List V} {ds : List Da} {i : Int} {d : Da} (r : RepAll T H vs ds) (h : atI ds i = some d) : ∃ v, atI vs i = some v ∧ Rep T H v d := by
  unfold atI at h ⊢
  rw [r.length]
  cases hx : ixN ds.length i with
  | none => rw [hx] at h; cases h
  | some j =>
    rw [hx] at h
    exact r.get' h
theorem rd_ix : RD2 T (rIxA T.K) kIx := fun F H x y d e s Q ex rx ry hk q => by
  cases ry with
  | int i =>
    unfold kIx at hk
    dsimp only at hk
    cases hl : asL d with
    | some xs =>
      rw [hl] at hk
      dsimp only at hk
      cases ha : atI xs i with
      | none => rw [ha] at hk; cases hk
      | some z =>
        rw [ha] at hk; cases hk
        obtain ⟨a, vs, rfl, h1, h2⟩ := rx.list hl
        obtain ⟨v, h3, h4⟩ := atI_rep h2 ha
        exact .inl ⟨a, vs, i, v, rfl, rfl, ex_l ex h1, h3, q _ F H (Grow.refl ex) h4⟩
    | none =>
      rw [hl] at hk
      dsimp only at hk
      cases rx with
      | tup h1 r1 =>
        dsimp only at hk
        rename_i ds
        cases ha : atI ds i with
        | none => rw [ha] at hk; cases hk
        | some z =>
          rw [ha] at hk; cases hk
          obtain ⟨v, h3, h4⟩ := atI_rep r1 ha
          exact .inr ⟨_, _, i, v, rfl, rfl, ex_t ex h1, h3, q _ F H (Grow.refl ex) h4⟩
      | kt k1 k2 k3 h1 r1 =>
        dsimp only at hk
        rename_i ds
        cases ha : atI ds i with
        | none => rw [ha] at hk; cases hk
        | some z =>
          rw [ha] at hk; cases hk
          obtain ⟨v, h3, h4⟩ := atI_rep r1 ha
          exact .inr ⟨_, _, i, v, rfl, rfl, ex_t ex h1, h3, q _ F H (Grow.refl ex) h4⟩
      | _ => cases hk
  | _ => cases hk
/-! ### len, sum, all, any, list, sorted, divmod -/
def kLen : List Da → Option Sl
  | [d] => (match asL d with
    | some xs => some (.sh (.int xs.length))
    | none => (match d with
      | .tup xs => some (.sh (.int xs.length))
      | _ => none))
  | _ => none
def rLenA (K : PySem.W.Frag) : List V → Hp → VK → Prop := fun xs H Q => ∃ p ys, xs = [.ref p] ∧ (SqL K H p ys ∨ SqT K H p ys) ∧ Q (.int ys.length) H
theorem rd_len : RDA T (rLenA T.K) kLen := fun F H xs ds s Q ex r hk q => by
  cases r with
  | nil => cases hk
  | cons rx rr => cases rr with
    | cons _ _ => cases hk
    | nil =>
      rename_i v d
      unfold kLen at hk
      dsimp only at hk
      cases hl : asL d with
      | some ys =>
        rw [hl] at hk; cases hk
        obtain ⟨a, vs, rfl, h1, h2⟩ := rx.list hl
        exact ⟨a, vs, rfl, .inl (ex_l ex h1), by rw [h2.length]; exact q _ F H (Grow.refl ex) (.int _)⟩
      | none =>
        rw [hl] at hk
        cases rx with
        | tup h1 r1 => cases hk; exact ⟨_, _, rfl, .inr (ex_t ex h1), by rw [r1.length]; exact q _ F H (Grow.refl ex) (.int _)⟩
        | _ => cases hk
def asInts : List Da → Option (List Int)
  | [] => some []
  | .int i :: r => (asInts r).map (i :: ·)
  | _ => none
theorem asInts_map : ∀ {xs : List Da} {ns : List Int}, asInts xs = some ns → xs = ns.map .int
  | [], _, h => by cases h; rfl
  | .int i :: r, ns, h => by
    simp only [asInts] at h
    cases hr : asInts r with
    | none => rw [hr] at h; cases h
    | some ms => rw [hr] at h; cases h; rw [asInts_map hr]; rfl
  | .non :: _, _, h => by simp [asInts] at h
  | .bl _ :: _, _, h => by simp [asInts] at h
  | .str _ :: _, _, h => by simp [asInts] at h
  | .lst _ :: _, _, h => by simp [asInts] at h
  | .tup _ :: _, _, h => by simp [asInts] at h
  | .emp :: _, _, h => by simp [asInts] at h
  | .even _ :: _, _, h => by simp [asInts] at h
  | .unl _ _ :: _, _, h => by simp [asInts] at h
  | .scr _ :: _, _, h => by simp [asInts] at h
  | .kt _ :: _, _, h => by simp [asInts] at h
  | .err :: _, _, h => by simp [asInts] at h
theorem asInts_ints : ∀ ns : List Int, asInts (ns.map .int) = some ns
  | [] => rfl
  | n :: ns => by rw [List.map_cons, asInts, asInts_ints ns]; rfl
def asBls : List Da → Option (List Bool)
  | [] => some []
  | .bl i :: r => (asBls r).map (i :: ·)
  | _ => none
theorem asBls_map : ∀ {xs : List Da} {ns : List Bool}, asBls xs = some ns → xs = ns.map .bl
  | [], _, h => by cases h; rfl
  | .bl i :: r, ns, h => by
    simp only [asBls] at h
    cases hr : asBls r with
    | none => rw [hr] at h; cases h
    | some ms => rw [hr] at h; cases h; rw [asBls_map hr]; rfl
  | .non :: _, _, h => by simp [asBls] at h
  | .int _ :: _, _, h => by simp [asBls] at h
  | .str _ :: _, _, h => by simp [asBls] at h
  | .lst _ :: _, _, h => by simp [asBls] at h
  | .tup _ :: _, _, h => by simp [asBls] at h
  | .emp :: _, _, h => by simp [asBls] at h
  | .even _ :: _, _, h => by simp [asBls] at h
  | .unl _ _ :: _, _, h => by simp [asBls] at h
  | .scr _ :: _, _, h => by simp [asBls] at h
  | .kt _ :: _, _, h => by simp [asBls] at h
  | .err :: _, _, h => by simp [asBls] at h
theorem asBls_bls : ∀ ns : List Bool, asBls (ns.map .bl) = some ns
  | [] => rfl
  | n :: ns => by rw [List.map_cons, asBls, asBls_bls ns]; rfl
def ints1 (ds : List Da) : Option (List Int) := match ds with
  | [d] => (asL d).bind asInts
  | _ => none
def bls1 (ds : List Da) : Option (List Bool) := match ds with
  | [d] => (asL d).bind asBls
  | _ => none
theorem ints1_sq {F H : Hp} {xs : List V} {ds : List Da} {ns : List Int} (ex : Ex F H) (r : RepAll T F xs ds) (h : ints1 ds = some ns) : ∃ a, xs = [.ref a] ∧ SqL T.K H a (ns.map V.int) := by
  cases r with
  | nil => cases h
  | cons rx rr => cases rr with
    | cons _ _ => cases h
    | nil =>
      rename_i v d
      unfold ints1 at h
      dsimp only at h
      cases hl : asL d with
      | none => rw [hl] at h; cases h
      | some ys =>
        rw [hl] at h
        obtain ⟨a, vs, rfl, h1, h2⟩ := rx.list hl
        have e := asInts_map (xs := ys) (ns := ns) h
        subst e
        have e2 := h2.int_of
        subst e2
        exact ⟨a, rfl, ex_l ex h1⟩
theorem bls1_sq {F H : Hp} {xs : List V} {ds : List Da} {ns : List Bool} (ex : Ex F H) (r : RepAll T F xs ds) (h : bls1 ds = some ns) : ∃ a, xs = [.ref a] ∧ SqL T.K H a (ns.map V.bl) := by
  cases r with
  | nil => cases h
  | cons rx rr => cases rr with
    | cons _ _ => cases h
    | nil =>
      rename_i v d
      unfold bls1 at h
      dsimp only at h
      cases hl : asL d with
      | none => rw [hl] at h; cases h
      | some ys =>
        rw [hl] at h
        obtain ⟨a, vs, rfl, h1, h2⟩ := rx.list hl
        have e := asBls_map (xs := ys) (ns := ns) h
        subst e
        have e2 := h2.bl_of
        subst e2
        exact ⟨a, rfl, ex_l ex h1⟩
def kSum (ds : List Da) : Option Sl := (ints1 ds).map fun ns => .sh (.int ns.sum)
theorem rd_sum : RDA T (rSum T.K) kSum := fun F H xs ds s Q ex r hk q => by
  unfold kSum at hk
  cases h : ints1 ds with
  | none => rw [h] at hk; cases hk
  | some ns =>
    rw [h] at hk; cases hk
    obtain ⟨a, rfl, h1⟩ := ints1_sq ex r h
    exact ⟨a, ns, rfl, h1, q _ F H (Grow.refl ex) (.int _)⟩
def kAll (ds : List Da) : Option Sl := (bls1 ds).map fun ns => .sh (.bl (ns.all id))
theorem rd_all : RDA T (rAll T.K) kAll := fun F H xs ds s Q ex r hk q => by
  unfold kAll at hk
  cases h : bls1 ds with
  | none => rw [h] at hk; cases hk
  | some ns =>
    rw [h] at hk; cases hk
    obtain ⟨a, rfl, h1⟩ := bls1_sq ex r h
    exact ⟨a, ns, rfl, h1, q _ F H (Grow.refl ex) (.bl _)⟩
def kAny (ds : List Da) : Option Sl := (bls1 ds).map fun ns => .sh (.bl (ns.any id))
theorem rd_any : RDA T (rAny T.K) kAny := fun F H xs ds s Q ex r hk q => by
  unfold kAny at hk
  cases h : bls1 ds with
  | none => rw [h] at hk; cases hk
  | some ns =>
    rw [h] at hk; cases hk
    obtain ⟨a, rfl, h1⟩ := bls1_sq ex r h
    exact ⟨a, ns, rfl, h1, q _ F H (Grow.refl ex) (.bl _)⟩
def kList : List Da → Option Sl
  | [d] => (match asL d with
    | some xs => some (.ow xs)
    | none => none)
  | _ => none
def rListA (K : PySem.W.Frag) : List V → Hp → VK → Prop := fun xs H Q => ∃ p ys, xs = [.ref p] ∧ (SqL K H p ys ∨ SqT K H p ys) ∧ ∀ l, H l = none → Q (.ref l) (upd H l (.lst ys))
theorem rd_list : RDA T (rListA T.K) kList := fun F H xs ds s Q ex r hk q => by
  cases r with
  | nil => cases hk
  | cons rx rr => cases rr with
    | cons _ _ => cases hk
    | nil =>
      rename_i v d
      unfold kList at hk
      dsimp only at hk
      cases hl : asL d with
      | none => rw [hl] at hk; cases hk
      | some ys =>
        rw [hl] at hk; cases hk
        obtain ⟨a, vs, rfl, h1, h2⟩ := rx.list hl
        exact ⟨a, vs, rfl, .inl (ex_l ex h1), fun l hn => q _ F _ (Grow.own ex hn) ⟨l, vs, rfl, hn, ex.back hn, upd_same, h2⟩⟩
/-! sorted -/
def ins1 (x : Int) : List Int → List Int
  | [] => [x]
  | y :: ys => if x ≤ y then x :: y :: ys else y :: ins1 x ys
def isort : List Int → List Int
  | [] => []
  | x :: xs => ins1 x (isort xs)
theorem ins1_perm (x : Int) : ∀ xs : List Int, (ins1 x xs).Perm (x :: xs)
  | [] => .refl _
  | y :: ys => by
    unfold ins1
    split
    · exact .refl _
    · exact ((ins1_perm x ys).cons y).trans (.swap x y ys)
theorem isort_perm : ∀ xs : List Int, (isort xs).Perm xs
  | [] => .refl _
  | x :: xs => (ins1_perm x (isort xs)).trans ((isort_perm xs).cons x)
theorem ins1_sorted (x : Int) : ∀ {xs : List Int}, xs.Pairwise (· ≤ ·) → (ins1 x xs).Pairwise (· ≤ ·)
  | [], _ => List.pairwise_singleton _ _
  | y :: ys, h => by
    unfold ins1
    obtain ⟨h1, h2⟩ := List.pairwise_cons.mp h
    split
    · rename_i hx
      refine List.pairwise_cons.mpr ⟨fun z hz => ?_, h⟩
      rcases List.mem_cons.mp hz with e | hz
      · rw [e]; exact hx
      · exact Int.le_trans hx (h1 z hz)
    · rename_i hx
      refine List.pairwise_cons.mpr ⟨fun z hz => ?_, ins1_sorted x h2⟩
      have := (ins1_perm x ys).mem_iff.mp hz
      rcases List.mem_cons.mp this with e | hz'
      · rw [e]; omega
      · exact h1 z hz'
theorem isort_sorted : ∀ xs : List Int, (isort xs).Pairwise (· ≤ ·)
  | [] => .nil
  | x :: xs => ins1_sorted x (isort_sorted xs)
theorem sorted_unique : ∀ {xs ys : List Int}, xs.Perm ys → xs.Pairwise (· ≤ ·) → ys.Pairwise (· ≤ ·) → xs = ys
  | [], ys, p, _, _ => p.nil_eq.symm ▸ rfl
  | x :: xs, [], p, _, _ => by have := p.length_eq; simp at this
  | x :: xs, y :: ys, p, hx, hy => by
    obtain ⟨h1, h2⟩ := List.pairwise_cons.mp hx
    obtain ⟨h3, h4⟩ := List.pairwise_cons.mp hy
    have e : x = y := by
      have a1 : x ∈ y :: ys := p.mem_iff.mp List.mem_cons_self
      have a2 : y ∈ x :: xs := p.mem_iff.mpr List.mem_cons_self
      rcases List.mem_cons.mp a1 with e | a1
      · exact e
      · rcases List.mem_cons.mp a2 with e | a2
        · exact e.symm
        · have := h1 y a2
          have := h3 x a1
          omega
    subst e
    rw [sorted_unique (List.Perm.cons_inv p) h2 h4]
def kSorted (ds : List Da) : Option Sl := (ints1 ds).map fun ns => .ow ((isort ns).map .int)
theorem rd_sorted : RDA T (rSortedI T.K) kSorted := fun F H xs ds s Q ex r hk q => by
  unfold kSorted at hk
  cases h : ints1 ds with
  | none => rw [h] at hk; cases hk
  | some ns =>
    rw [h] at hk; cases hk
    obtain ⟨a, rfl, h1⟩ := ints1_sq ex r h
    refine ⟨a, ns, rfl, h1, fun ns' p pm sr hn => ?_⟩
    have e : ns' = isort ns := sorted_unique (pm.trans (isort_perm ns).symm) sr (isort_sorted ns)
    subst e
    exact q _ F _ (Grow.own ex hn) ⟨p, _, rfl, hn, ex.back hn, upd_same, RepAll.ints _⟩
def kDivmod : List Da → Option Sl
  | [.int i, .int j] => if divOk i j = true then some (.sh (.tup [.int (i / j), .int (i % j)])) else none
  | _ => none
def rDivmod : List V → Hp → VK → Prop := fun xs H Q => ∃ i j, xs = [.int i, .int j] ∧ CDivP i j ∧ ∀ p, H p = none → Q (.ref p) (upd H p (.tup [.int (i / j), .int (i % j)]))
theorem rd_divmod : RDA T rDivmod kDivmod := fun F H xs ds s Q ex r hk q => by
  cases r with
  | nil => cases hk
  | cons rx rr => cases rr with
    | nil => cases rx <;> cases hk
    | cons ry rz => cases rz with
      | cons _ _ => cases rx <;> first | (cases hk; done) | (cases ry <;> cases hk)
      | nil =>
        cases rx with
        | int i => cases ry with
          | int j =>
            simp only [kDivmod] at hk
            split at hk
            · rename_i hz
              cases hk
              have hw := divOk.ok hz
              refine ⟨i, j, rfl, ⟨hw.1, PyProof.noPylong_of_log2 hw.2⟩, fun p hn => ?_⟩
              exact q _ _ _ (Grow.new ex hn) (.tup (SqT.of upd_same) (.cons (.int _) (.cons (.int _) .nil)))
            · cases hk
          | _ => cases hk
        | _ => cases hk
end
end G6

namespace G6
open PySem PySem.Spec PyProof.Rows L2

/-! ### the slots of a def's body -/
section
variable (T : Tx)
def SlE (F H : Hp) (A : List Addr) (v : Option (Option V)) : Sl → Prop
  | .dead => A = []
  | .sh d => A = [] ∧ ∃ x, v = some (some x) ∧ Rep T F x d
  | .ow xs => ∃ p vs, A = [p] ∧ v = some (some (.ref p)) ∧ H p = some (.lst vs) ∧ RepAll T F vs xs
  | .ow2 xss => ∃ p as, A = p :: as ∧ v = some (some (.ref p)) ∧ H p = some (.lst (as.map V.ref)) ∧ Rows T F H as xss
structure EnvOk (F0 H0 F H : Hp) (σ : St) (ρ : Rho) : Prop where
  g : Grow F0 H0 F H
  len : σ.length = ρ.length
  ow : ∃ o : Nat → List Addr, (∀ i, (o i).Nodup) ∧ (∀ i j a, a ∈ o i → a ∈ o j → i = j) ∧ (∀ i a, a ∈ o i → F a = none ∧ H0 a = none ∧ ∃ u, H a = some u) ∧ ∀ i s, ρ[i]? = some s → SlE T F H (o i) σ[i]? s
end
section
variable {T : Tx} {F0 H0 F H F' H' : Hp} {σ : St} {ρ : Rho}
theorem Rows.some_ {F H : Hp} : ∀ {as : List Addr} {xss : List (List Da)}, Rows T F H as xss → ∀ a ∈ as, ∃ u, H a = some u
  | a :: as, xs :: xss, ⟨⟨vs, h, _⟩, t⟩, b, hb => by
    rcases List.mem_cons.mp hb with e | hb
    · subst e; exact ⟨_, h⟩
    · exact Rows.some_ t b hb
  | [], _, _, b, hb => by cases hb
  | _ :: _, [], h, _, _ => h.elim
theorem SlE.mono {A : List Addr} {v : Option (Option V)} (e : Ex F F') (k : ∀ a ∈ A, H' a = H a) : ∀ {s : Sl}, SlE T F H A v s → SlE T F' H' A v s
  | .dead, h => h
  | .sh d, ⟨h0, x, h1, h2⟩ => ⟨h0, x, h1, h2.mono e⟩
  | .ow xs, ⟨p, vs, h1, h2, h3, h4⟩ => ⟨p, vs, h1, h2, by rw [k p (by rw [h1]; exact List.mem_cons_self)]; exact h3, h4.mono e⟩
  | .ow2 xss, ⟨p, as, h1, h2, h3, h4⟩ => ⟨p, as, h1, h2, by rw [k p (by rw [h1]; exact List.mem_cons_self)]; exact h3, Rows.mono e (fun a ha => k a (by rw [h1]; exact List.mem_cons_of_mem _ ha)) h4⟩
/-- H grows, F grows by what is new -/
theorem EnvOk.ext (h : EnvOk T F0 H0 F H σ ρ) (g : Grow F H F' H') : EnvOk T F0 H0 F' H' σ ρ := by
  obtain ⟨o, h1, h2, h3, h4⟩ := h.ow
  have k : ∀ i a, a ∈ o i → H' a = H a := fun i a ha => by
    obtain ⟨_, _, u, hu⟩ := h3 i a ha
    rw [hu, g.h a u hu]
  refine ⟨h.g.trans g, h.len, o, h1, h2, fun i a ha => ?_, fun i s hs => (h4 i s hs).mono g.f (k i)⟩
  obtain ⟨q1, q2, u, hu⟩ := h3 i a ha
  refine ⟨?_, q2, u, g.h a u hu⟩
  cases z : F' a with
  | none => rfl
  | some x =>
    rcases g.n a x z with y | y
    · rw [q1] at y; cases y
    · rw [hu] at y; cases y
theorem EnvOk.grow (h : EnvOk T F0 H0 F H σ ρ) (e : Ex H H') : EnvOk T F0 H0 F H' σ ρ := h.ext ⟨Ex.refl F, e, h.g.s.trans e, fun _ _ q => .inl q⟩
/-- all slots, read at H -/
theorem EnvOk.view (h : EnvOk T F0 H0 F H σ ρ) : View T H σ ρ := by
  obtain ⟨o, h1, h2, h3, h4⟩ := h.ow
  refine ⟨h.len, fun i s d hs hv => ?_⟩
  have q := h4 i s hs
  cases s with
  | dead => cases hv
  | sh d' => cases hv; obtain ⟨_, x, q1, q2⟩ := q; exact ⟨x, q1, q2.mono h.g.s⟩
  | ow xs => cases hv; obtain ⟨p, vs, q1, q2, q3, q4⟩ := q; exact ⟨_, q2, .lst q3 (q4.mono h.g.s)⟩
  | ow2 xss => cases hv; obtain ⟨p, as, q1, q2, q3, q4⟩ := q; exact ⟨_, q2, .lst q3 (Rows.reps h.g.s (fun _ _ => rfl) q4)⟩
/-- the shared slots alone -/
def shO : Sl → Sl
  | .sh d => .sh d
  | _ => .dead
def Rho.shs (ρ : Rho) : Rho := List.map shO ρ
theorem EnvOk.viewF (h : EnvOk T F0 H0 F H σ ρ) : View T F σ (Rho.shs ρ) := by
  obtain ⟨o, h1, h2, h3, h4⟩ := h.ow
  refine ⟨by unfold Rho.shs; rw [List.length_map]; exact h.len, fun i s d hs hv => ?_⟩
  unfold Rho.shs at hs
  rw [List.getElem?_map] at hs
  cases hr : ρ[i]? with
  | none => rw [hr] at hs; cases hs
  | some s' =>
    rw [hr] at hs
    cases hs
    have q := h4 i s' hr
    cases s' with
    | sh d' => cases hv; obtain ⟨_, x, q1, q2⟩ := q; exact ⟨x, q1, q2⟩
    | _ => cases hv
/-- a slot is set to a value that a reading gave -/
theorem EnvOk.put {v : V} {s : Sl} {i : Nat} (h : EnvOk T F0 H0 F H σ ρ) (g : Grow F H F' H') (r : SlV T H F' H' v s) : EnvOk T F0 H0 F' H' (σ.set i (some v)) (ρ.set i s) := by
  have h' := h.ext g
  obtain ⟨o, h1, h2, h3, h4⟩ := h'.ow
  obtain ⟨o0, _, _, p3, _⟩ := h.ow
  have key : ∃ A : List Addr, A.Nodup ∧ (∀ a ∈ A, F' a = none ∧ H a = none ∧ ∃ u, H' a = some u) ∧ SlE T F' H' A (some (some v)) s := by
    cases s with
    | dead => exact r.elim
    | sh d => exact ⟨[], List.Pairwise.nil, fun a ha => absurd ha List.not_mem_nil, rfl, v, rfl, r⟩
    | ow xs =>
      obtain ⟨p, vs, rfl, r2, r3, r4, r5⟩ := r
      exact ⟨[p], List.nodup_cons.mpr ⟨List.not_mem_nil, List.Pairwise.nil⟩, fun a ha => by cases List.mem_singleton.mp ha; exact ⟨r3, r2, _, r4⟩, p, vs, rfl, rfl, r4, r5⟩
    | ow2 xss =>
      obtain ⟨p, as, rfl, r2, r3, r4, r5, r6, r7⟩ := r
      refine ⟨p :: as, r5, fun a ha => ?_, p, as, rfl, rfl, r4, r7⟩
      rcases List.mem_cons.mp ha with e | ha
      · subst e; exact ⟨r3, r2, _, r4⟩
      · exact ⟨(r6 a ha).2, (r6 a ha).1, r7.some_ a ha⟩
  obtain ⟨A, a1, a2, a3⟩ := key
  -- the other slots' own things are older
  have old : ∃ o : Nat → List Addr, (∀ i, (o i).Nodup) ∧ (∀ i j a, a ∈ o i → a ∈ o j → i = j) ∧ (∀ i a, a ∈ o i → F' a = none ∧ H0 a = none ∧ (∃ u, H' a = some u) ∧ ∃ u, H a = some u) ∧ ∀ i s, ρ[i]? = some s → SlE T F' H' (o i) σ[i]? s := by
    obtain ⟨o, h1, h2, h3, h4⟩ := h.ow
    have k : ∀ i a, a ∈ o i → H' a = H a := fun i a ha => by
      obtain ⟨_, _, u, hu⟩ := h3 i a ha
      rw [hu, g.h a u hu]
    refine ⟨o, h1, h2, fun i a ha => ?_, fun i s hs => (h4 i s hs).mono g.f (k i)⟩
    obtain ⟨q1, q2, u, hu⟩ := h3 i a ha
    refine ⟨?_, q2, ⟨u, g.h a u hu⟩, u, hu⟩
    cases z : F' a with
    | none => rfl
    | some x =>
      rcases g.n a x z with y | y
      · rw [q1] at y; cases y
      · rw [hu] at y; cases y
  obtain ⟨o, h1, h2, h3, h4⟩ := old
  refine ⟨h'.g, by rw [List.length_set, List.length_set]; exact h.len, fun j => if j = i then A else o j, fun j => ?_, fun j l a ha hb => ?_, fun j a ha => ?_, fun j t ht => ?_⟩
  · dsimp only
    split
    · exact a1
    · exact h1 j
  · by_cases e1 : j = i
    · by_cases e2 : l = i
      · rw [e1, e2]
      · simp only [if_pos e1] at ha
        simp only [if_neg e2] at hb
        obtain ⟨_, z, _⟩ := a2 a ha
        obtain ⟨_, _, _, u, hu⟩ := h3 l a hb
        rw [hu] at z; cases z
    · by_cases e2 : l = i
      · simp only [if_neg e1] at ha
        simp only [if_pos e2] at hb
        obtain ⟨_, z, _⟩ := a2 a hb
        obtain ⟨_, _, _, u, hu⟩ := h3 j a ha
        rw [hu] at z; cases z
      · simp only [if_neg e1] at ha
        simp only [if_neg e2] at hb
        exact h2 j l a ha hb
  · by_cases e1 : j = i
    · simp only [if_pos e1] at ha
      obtain ⟨q1, q2, q3⟩ := a2 a ha
      exact ⟨q1, h.g.h.back q2, q3⟩
    · simp only [if_neg e1] at ha
      obtain ⟨q1, q2, q3, _⟩ := h3 j a ha
      exact ⟨q1, q2, q3⟩
  · by_cases e1 : j = i
    · subst e1
      by_cases hl : j < ρ.length
      · rw [List.getElem?_set_self hl] at ht
        cases ht
        rw [List.getElem?_set_self (by rw [h.len]; exact hl)]
        simp only [if_true]
        exact a3
      · rw [List.getElem?_eq_none (by rw [List.length_set]; omega)] at ht; cases ht
    · rw [List.getElem?_set_ne (Ne.symm e1)] at ht ⊢
      simp only [if_neg e1]
      exact h4 j t ht
/-- .. to shared data -/
theorem EnvOk.putD {v : V} {d : Da} {i : Nat} (h : EnvOk T F0 H0 F H σ ρ) (r : Rep T F v d) : EnvOk T F0 H0 F H (σ.set i (some v)) (ρ.set i (.sh d)) := h.put (Grow.refl h.g.s) r
end

/-! ### statements -/
inductive Ou where
  | nx (r : Rho) | rt (s : Sl) | bk (r : Rho) | ct (r : Rho) | ex (c : Str) (r : Rho) | no
abbrev SemS := Rho → Ou
section
variable (T : Tx) (W : WX)
def PostS (D : Ends) (F0 H0 F : Hp) : Ou → Prop
  | .nx ρ' => ∀ σ' F' H', Ex F F' → EnvOk T F0 H0 F' H' σ' ρ' → D.nx σ' H'
  | .bk ρ' => ∀ σ' F' H', Ex F F' → EnvOk T F0 H0 F' H' σ' ρ' → D.bk σ' H'
  | .ct ρ' => ∀ σ' F' H', Ex F F' → EnvOk T F0 H0 F' H' σ' ρ' → D.ct σ' H'
  | .rt s => ∀ v F' H', Grow F0 H0 F' H' → SlV T H0 F' H' v s → D.rt v H'
  | .ex c ρ' => ∀ C σ' F' H', T.mg c = some (.ref C) → Ex F F' → EnvOk T F0 H0 F' H' σ' ρ' → W (.ref C) none σ' H'
  | .no => False
def tS (g : SemS) : TS := fun D σ H => ∃ F0 H0 F ρ, EnvOk T F0 H0 F H σ ρ ∧ PostS T W D F0 H0 F (g ρ)
end
def seps : Da → Bool
  | .non => true
  | .bl _ => true
  | .int _ => true
  | .str _ => true
  | _ => false
def sep : Sl → Bool
  | .dead => false
  | .sh d => seps d
  | .ow xs => xs.all seps
  | .ow2 xss => xss.all fun xs => xs.all seps
/-- a value that is to be kept: read off the shared slots; or (full) off all of them, if it holds no reference -/
def stf (full : Bool) (f : Sem1) : Sem1 := fun ρ => match full with
  | false => f (Rho.shs ρ)
  | true => (f ρ).bind fun s => if sep s = true then .ok s else .no
section
variable {T : Tx} {W : WX} {F0 H0 F H F' H' : Hp} {σ : St} {ρ : Rho}
theorem seps_rep {v : V} {d : Da} (r : Rep T H v d) (h : seps d = true) : Rep T F v d := by
  cases r <;> first | (constructor; done) | cases h
theorem seps_reps : ∀ {vs : List V} {ds : List Da}, RepAll T H vs ds → ds.all seps = true → RepAll T F vs ds
  | _, _, .nil, _ => .nil
  | _, _, .cons r t, h => by
    rw [List.all_cons, Bool.and_eq_true] at h
    exact .cons (seps_rep r h.1) (seps_reps t h.2)
theorem seps_rows : ∀ {as : List Addr} {xss : List (List Da)}, Rows T F' H as xss → (xss.all fun xs => xs.all seps) = true → Rows T F H as xss
  | [], [], _, _ => trivial
  | a :: as, xs :: xss, ⟨⟨vs, h1, h2⟩, t⟩, h => by
    rw [List.all_cons, Bool.and_eq_true] at h
    exact ⟨⟨vs, h1, seps_reps h2 h.1⟩, seps_rows t h.2⟩
  | [], _ :: _, h, _ => h.elim
  | _ :: _, [], h, _ => h.elim
theorem run_st {P : Rs Sl → Prop} {full : Bool} {f : Sem1} {Q : VK} (ok : EnvOk T F0 H0 F H σ ρ) (hp : P (stf full f ρ)) (hno : ¬ P .no) (hex : ∀ c, P (.ex c) → PEx T W σ H c)
    (q : ∀ s v F' H', Grow F H F' H' → SlV T H F' H' v s → P (.ok s) → Q v H') : tD T W f σ H Q := by
  cases full with
  | false =>
    refine ⟨F, Rho.shs ρ, ok.g.s, ok.viewF, ?_⟩
    unfold stf at hp
    dsimp only at hp
    cases hf : f (Rho.shs ρ) with
    | no => rw [hf] at hp; exact (hno hp).elim
    | ex c => rw [hf] at hp; exact hex c hp
    | ok s => rw [hf] at hp; exact fun v F' H' g r => q s v F' H' g r hp
  | true =>
    refine ⟨H, ρ, Ex.refl H, ok.view, ?_⟩
    unfold stf at hp
    dsimp only at hp
    cases hf : f ρ with
    | no => rw [hf] at hp; exact (hno hp).elim
    | ex c => rw [hf] at hp; exact hex c hp
    | ok s =>
      rw [hf] at hp
      simp only [Rs.bind] at hp
      intro v F1 H' g r
      by_cases hs : sep s = true
      · rw [if_pos hs] at hp
        have g' : Grow F H F H' := ⟨Ex.refl F, g.h, ok.g.s.trans g.h, fun _ _ z => .inl z⟩
        refine q s v F H' g' ?_ hp
        cases s with
        | dead => cases hs
        | sh d => exact seps_rep r hs
        | ow xs =>
          obtain ⟨p, vs, r1, r2, r3, r4, r5⟩ := r
          exact ⟨p, vs, r1, r2, ok.g.s.back r2, r4, seps_reps r5 hs⟩
        | ow2 xss =>
          obtain ⟨p, as, r1, r2, r3, r4, r5, r6, r7⟩ := r
          exact ⟨p, as, r1, r2, ok.g.s.back r2, r4, r5, fun a ha => ⟨(r6 a ha).1, ok.g.s.back (r6 a ha).1⟩, seps_rows r7 hs⟩
      · rw [if_neg hs] at hp; exact (hno hp).elim
/-- the exception of a statement's own expression -/
theorem post_ex {D : Ends} {c : Str} (ok : EnvOk T F0 H0 F H σ ρ) (h : PostS T W D F0 H0 F (.ex c ρ)) : PEx T W σ H c := fun C H' e1 e2 => h C σ F H' e1 (Ex.refl F) (ok.grow e2)
theorem PostS.mono {D : Ends} (e : Ex F F') : ∀ {o : Ou}, PostS T W D F0 H0 F o → PostS T W D F0 H0 F' o
  | .nx _, h => fun σ' F2 H2 e2 k => h σ' F2 H2 (e.trans e2) k
  | .bk _, h => fun σ' F2 H2 e2 k => h σ' F2 H2 (e.trans e2) k
  | .ct _, h => fun σ' F2 H2 e2 k => h σ' F2 H2 (e.trans e2) k
  | .rt _, h => h
  | .ex _ _, h => fun C σ' F2 H2 e1 e2 k => h C σ' F2 H2 e1 (e.trans e2) k
  | .no, h => h
end
def sNil : SemS := fun ρ => .nx ρ
def sSeq (a b : SemS) : SemS := fun ρ => match a ρ with
  | .nx ρ' => b ρ'
  | .rt s => .rt s
  | .bk r => .bk r
  | .ct r => .ct r
  | .ex c r => .ex c r
  | .no => .no
def sExpr (f : Sem1) : SemS := fun ρ => match f ρ with
  | .ok _ => .nx ρ
  | .ex c => .ex c ρ
  | .no => .no
/-- name = e: kept as it is -/
def sOwn (i : Nat) (full : Bool) (f : Sem1) : SemS := fun ρ => match stf full f ρ with
  | .ok s => .nx (ρ.set i s)
  | .ex c => .ex c ρ
  | .no => .no
/-- name = e: kept as shared data -/
def sSet (i : Nat) (full : Bool) (f : Sem1) : SemS := fun ρ => match dat (stf full f ρ) with
  | .ok d => .nx (ρ.set i (.sh d))
  | .ex c => .ex c ρ
  | .no => .no
def sRet (full : Bool) (f : Sem1) : SemS := fun ρ => match stf full f ρ with
  | .ok s => .rt s
  | .ex c => .ex c ρ
  | .no => .no
def sRetVar (i : Nat) : SemS := fun ρ => match ρ[i]? with
  | some .dead => .no
  | some s => .rt s
  | none => .no
def sIf (t : Rho → Rs Bool) (a b : SemS) : SemS := fun ρ => match t ρ with
  | .ok true => a ρ
  | .ok false => b ρ
  | .ex c => .ex c ρ
  | .no => .no
def sRaise (c : Str) : SemS := fun ρ => .ex c ρ
section
variable {X : Cx} {T : Tx} {W : WX} {a b : SemS} {st : Stmt} {rest : List Stmt} {f : Sem1} {e : Expr} {pos : Pos} {full : Bool}
theorem ss_nil : PSs X [] (tS T W sNil) := pss_imp pss_nil fun D σ H ⟨F0, H0, F, ρ, ok, hp⟩ => hp σ F H (Ex.refl F) ok
theorem ss_cons (h1 : PS X st (tS T W a)) (h2 : PSs X rest (tS T W b)) : PSs X (st :: rest) (tS T W (sSeq a b)) :=
  pss_imp (pss_cons h1 h2) fun D σ H ⟨F0, H0, F, ρ, ok, hp⟩ => ⟨F0, H0, F, ρ, ok, by
    unfold sSeq at hp
    cases ha : a ρ with
    | nx ρ' => rw [ha] at hp; exact fun σ' F' H' e k => ⟨F0, H0, F', ρ', k, PostS.mono e hp⟩
    | rt s => rw [ha] at hp; exact hp
    | bk s => rw [ha] at hp; exact hp
    | ct s => rw [ha] at hp; exact hp
    | ex c s => rw [ha] at hp; exact hp
    | no => rw [ha] at hp; exact hp⟩
theorem ss_one (h1 : PS X st (tS T W a)) : PSs X [st] (tS T W a) := pss_one h1
theorem s_expr (he : PE X e (tD T W f)) (hs : swapsWith e none pos.line X.env = pure false := by rfl) : PS X (.Expr e pos) (tS T W (sExpr f)) :=
  ps_imp (ps_expr he hs) fun D σ H ⟨F0, H0, F, ρ, ok, hp⟩ => ⟨H, ρ, Ex.refl H, ok.view, by
    unfold sExpr at hp
    cases hf : f ρ with
    | ok s => rw [hf] at hp; exact fun v F' H' g r => hp σ F H' (Ex.refl F) (ok.grow g.h)
    | ex c => rw [hf] at hp; exact post_ex ok hp
    | no => rw [hf] at hp; exact hp⟩
theorem own_core {i : Nat} : ∀ D σ H, tS T W (sOwn i full f) D σ H → tD T W f σ H fun x H1 => D.nx (σ.set i (some x)) H1 := fun D σ H ⟨F0, H0, F, ρ, ok, hp⟩ => by
  refine run_st (P := fun r => PostS T W D F0 H0 F (match r with | .ok s => .nx (ρ.set i s) | .ex c => .ex c ρ | .no => .no)) ok hp (fun z => z) (fun c z => post_ex ok z) fun s v F' H' g r hq => ?_
  exact hq _ F' H' g.f (ok.put g r)
theorem set_core {i : Nat} : ∀ D σ H, tS T W (sSet i full f) D σ H → tD T W f σ H fun x H1 => D.nx (σ.set i (some x)) H1 := fun D σ H ⟨F0, H0, F, ρ, ok, hp⟩ => by
  refine run_st (P := fun r => PostS T W D F0 H0 F (match dat r with | .ok d => .nx (ρ.set i (.sh d)) | .ex c => .ex c ρ | .no => .no)) ok hp (fun z => z) (fun c z => post_ex ok z) fun s v F' H' g r hq => ?_
  cases hv : s.view with
  | none => simp only [dat, hv] at hq; exact hq.elim
  | some d =>
    simp only [dat, hv] at hq
    obtain ⟨F2, g2, r2⟩ := r.see g hv
    exact hq _ F2 H' g2.f ((ok.ext g2).putD r2)
theorem s_own {i : Nat} {x : Str} {pos' : Pos} (hN : X.N.Nodup) (hi : X.N[i]? = some x) (hx : Loc X.env.scope x) (he : PE X e (tD T W f)) (hs : swapsWith e (some (.Name x pos')) pos.line X.env = pure false := by rfl)
    (hf : X.fn x = true ∨ X.env.scope.names.lookup x = some .local := by first | exact .inl rfl | exact .inr rfl | assumption) : PS X (.Assign [.Name x pos'] e pos) (tS T W (sOwn i full f)) :=
  ps_imp (ps_set hN hi hx he hs hf) own_core
theorem s_set {i : Nat} {x : Str} {pos' : Pos} (hN : X.N.Nodup) (hi : X.N[i]? = some x) (hx : Loc X.env.scope x) (he : PE X e (tD T W f)) (hs : swapsWith e (some (.Name x pos')) pos.line X.env = pure false := by rfl)
    (hf : X.fn x = true ∨ X.env.scope.names.lookup x = some .local := by first | exact .inl rfl | exact .inr rfl | assumption) : PS X (.Assign [.Name x pos'] e pos) (tS T W (sSet i full f)) :=
  ps_imp (ps_set hN hi hx he hs hf) set_core
theorem s_ret (he : PE X e (tD T W f)) : PS X (.Return (some e) pos) (tS T W (sRet full f)) :=
  ps_imp (ps_ret he) fun D σ H ⟨F0, H0, F, ρ, ok, hp⟩ => by
    refine run_st (P := fun r => PostS T W D F0 H0 F (match r with | .ok s => .rt s | .ex c => .ex c ρ | .no => .no)) ok hp (fun z => z) (fun c z => post_ex ok z) fun s v F' H' g r hq => ?_
    exact hq v F' H' (ok.g.trans g) (r.back ok.g.h)
theorem s_retVar (i : Nat) {x : Str} {p : Pos} (hN : X.N[i]? = some x := by rfl) (hv : Vis X.env.scope x := by first | exact Or.inl rfl | exact Or.inr (Or.inl rfl) | exact Or.inr (Or.inr rfl)) (hd : (x == ("__debug__" : Str)) = false := by decide)
    (hcd : (x == ("__classdict__" : Str)) = false := by decide) : PS X (.Return (some (.Name x p)) pos) (tS T W (sRetVar i)) :=
  ps_imp (ps_ret (pe_var hN hv hd hcd)) fun D σ H ⟨F0, H0, F, ρ, ok, hp⟩ => by
    unfold sRetVar at hp
    obtain ⟨o, h1, h2, h3, h4⟩ := ok.ow
    cases hr : ρ[i]? with
    | none => rw [hr] at hp; exact hp.elim
    | some s =>
      rw [hr] at hp
      have q := h4 i s hr
      cases s with
      | dead => exact hp.elim
      | sh d => obtain ⟨_, x, q1, q2⟩ := q; exact ⟨x, q1, hp x F H ok.g q2⟩
      | ow xs =>
        obtain ⟨p, vs, q1, q2, q3, q4⟩ := q
        obtain ⟨z1, z2, _⟩ := h3 i p (by rw [q1]; exact List.mem_cons_self)
        exact ⟨_, q2, hp _ F H ok.g ⟨p, vs, rfl, z2, z1, q3, q4⟩⟩
      | ow2 xss =>
        obtain ⟨p, as, q1, q2, q3, q4⟩ := q
        obtain ⟨z1, z2, _⟩ := h3 i p (by rw [q1]; exact List.mem_cons_self)
        refine ⟨_, q2, hp _ F H ok.g ⟨p, as, rfl, z2, z1, q3, by rw [← q1]; exact h1 i, fun a ha => ?_, q4⟩⟩
        obtain ⟨y1, y2, _⟩ := h3 i a (by rw [q1]; exact List.mem_cons_of_mem _ ha)
        exact ⟨y2, y1⟩
theorem s_if {c : Expr} {t : Rho → Rs Bool} {sa sb : List Stmt} (hc : PT X c (tT T W t)) (ha : PSs X sa (tS T W a)) (hb : PSs X sb (tS T W b)) : PS X (.If c sa sb pos) (tS T W (sIf t a b)) :=
  ps_imp (ps_if hc ha hb) fun D σ H ⟨F0, H0, F, ρ, ok, hp⟩ => ⟨H, ρ, Ex.refl H, ok.view, by
    unfold sIf at hp
    cases ht : t ρ with
    | no => rw [ht] at hp; exact hp
    | ex c => rw [ht] at hp; exact post_ex ok hp
    | ok b =>
      rw [ht] at hp
      intro F' H' g
      cases b with
      | true => exact ⟨F0, H0, F, ρ, ok.grow g.h, hp⟩
      | false => exact ⟨F0, H0, F, ρ, ok.grow g.h, hp⟩⟩
end

/-! ### a def -/
section
variable (T : Tx)
def PostF (F H : Hp) (Q : VK) (E : XK) : Rs Sl → Prop
  | .ok s => ∀ v F' H', Grow F H F' H' → SlV T H F' H' v s → Q v H'
  | .ex c => ∀ C H', T.mg c = some (.ref C) → Ex H H' → E (.ref C) none H'
  | .no => False
def spS (n : Nat) (f : List Da → Rs Sl) : Sp := fun vs H Q E => vs.length = n ∧ ∃ F ds, Ex F H ∧ RepAll T F vs ds ∧ PostF T F H Q E (f ds)
end
def endS (o : Ou) : Rs Sl := match o with
  | .nx _ => .ok (.sh .non)
  | .rt s => .ok s
  | .ex c _ => .ex c
  | _ => .no
def fDef (n : Nat) (g : SemS) : List Da → Rs Sl := fun ds => endS (g (ds.map Sl.sh ++ List.replicate (n - ds.length) Sl.dead))
theorem start_ok {T : Tx} {N : List Str} {vs : List V} {ds : List Da} {F H : Hp} (e : Ex F H) (r : RepAll T F vs ds) : EnvOk T F H F H (L2.start N vs) (ds.map Sl.sh ++ List.replicate (N.length - ds.length) Sl.dead) := by
  have hl := r.length
  refine ⟨Grow.refl e, ?_, fun _ => [], fun _ => List.Pairwise.nil, fun _ _ _ h => absurd h List.not_mem_nil, fun _ _ h => absurd h List.not_mem_nil, fun i s hs => ?_⟩
  · unfold L2.start
    rw [List.length_append, List.length_append, List.length_map, List.length_map, List.length_replicate, List.length_replicate, hl]
  · unfold L2.start
    by_cases hi : i < ds.length
    · rw [List.getElem?_append_left (by rw [List.length_map]; exact hi), List.getElem?_map] at hs
      rw [List.getElem?_append_left (by rw [List.length_map, hl]; exact hi), List.getElem?_map]
      cases hd : ds[i]? with
      | none => rw [hd] at hs; cases hs
      | some d =>
        rw [hd] at hs; cases hs
        obtain ⟨v, h1, h2⟩ := r.get' hd
        rw [h1]
        exact ⟨rfl, v, rfl, h2⟩
    · rw [List.getElem?_append_right (by rw [List.length_map]; omega), List.length_map] at hs
      have := List.mem_of_getElem? hs
      rw [List.eq_of_mem_replicate this]
      rfl
section
variable {P : Program} {w : World} {T : Tx} {base : Heap}
theorem okD {x qual : Str} {st : Stmt} {f : Addr} {fd : FuncData} {N ps : List Str} {k : Nat} {g : SemS} (F : Fun T.K x qual st f fd) (S : FnScope N ps (defScope st))
    (hbody : ∀ (cdv : Value) (A : Around) (outer : List Env) (s : Shared) (H : Hp) (E : XK), Room k (A.deeper (envOfC qual (defScope st) s.heap.objs.size f cdv)) →
      PSs (cxOf (L2N.CX P w) P w T.K T.mg base N qual (defScope st) f cdv A outer s H E) (defBody st) (tS T (fun cls d _ H => E cls d H) g)) :
    FnOk P w T.K T.mg base (L2N.CX P w) (k + 1) f fd ps (spS T ps.length (fDef N.length g)) := by
  obtain ⟨oc, od, kV, doc, pm, an, cdv, ct, osl, rfl, lk, hcd⟩ := F.ex
  refine fn_of lk hcd S (fun vs H Q E h => h.1) fun A outer s H vs Q E hr h => ⟨_, hbody cdv A outer s H E hr, ?_⟩
  obtain ⟨hl, F', ds, e, r, hp⟩ := h
  refine ⟨F', H, F', _, start_ok e r, ?_⟩
  unfold fDef at hp
  cases ho : g (ds.map Sl.sh ++ List.replicate (N.length - ds.length) Sl.dead) with
  | nx ρ' => rw [ho] at hp; exact fun σ' F2 H2 e2 k => hp _ F2 H2 k.g .non
  | rt s => rw [ho] at hp; exact hp
  | bk _ => rw [ho] at hp; exact hp.elim
  | ct _ => rw [ho] at hp; exact hp.elim
  | ex c _ => rw [ho] at hp; exact fun C σ' F2 H2 e1 e2 k => hp C H2 e1 k.g.h
  | no => rw [ho] at hp; exact hp.elim
end
def eFn (f : List Da → Rs Sl) (fs : Rho → Rs (List Da)) : Sem1 := fun ρ => (fs ρ).bind f
section
variable {X : Cx} {T : Tx} {W : WX} {k n : Nat} {f : Addr} {fd : FuncData} {ps : List Str} {g : List Da → Rs Sl} {x : Str} {p pos : Pos} {e : Expr} {es : List Expr} {fs : Rho → Rs (List Da)}
theorem aNil_len {es : List Expr} : True := trivial
theorem e_call (G : FnOk X.prog X.w X.K X.mg X.base (L2N.CX X.prog X.w) k f fd ps (spS T n g)) (hr : Room k X.A) (hg : Gl X x) (hm : X.mg x = some (.ref f)) (hk : PySem.W.keepIn X.K (.ref f) = true) (hb : Binds X.K fd ps []) (tk : L2N.Takes X W)
    (ha : PA X (e :: es) (tA T W fs)) (hn : ∀ ρ ds, fs ρ = .ok ds → ds.length = n) (hdb : (x == ("__debug__" : Str)) = false := by decide) (he : starEach (e :: es) X.env = (false, eval e X.env) :: starEach es X.env := by rfl)
    (hpl : (backTo pos (starEach es X.env)).any (·.1) = false := by rfl) : PE X (.Call (.Name x p) (e :: es) [] pos) (tD T W (eFn g fs)) :=
  pe_imp (pe_callS (E := WE W) G hr hg hm hk hb (fun σ => L2N.passAt tk σ) ha hdb he hpl) fun σ H Q ⟨F, ρ, e, vw, hp⟩ => by
    refine ⟨F, ρ, e, vw, ?_⟩
    unfold eFn at hp
    cases hf : fs ρ with
    | no => rw [hf] at hp; exact hp.elim
    | ex c => rw [hf] at hp; exact hp
    | ok ds =>
      rw [hf] at hp
      intro vs F1 H1 g1 r1
      refine ⟨by rw [r1.length]; exact hn ρ ds hf, F1, ds, g1.s, r1, ?_⟩
      simp only [Rs.bind] at hp
      have hp' : Post T W σ F1 H1 Q (g ds) := Post.mono g1 hp
      cases hg : g ds with
      | no => rw [hg] at hp'; exact hp'.elim
      | ex c => rw [hg] at hp'; exact hp'
      | ok s => rw [hg] at hp'; exact hp'
theorem len_nil : ∀ (ρ : Rho) (ds : List Da), aNil ρ = .ok ds → ds.length = 0 := fun ρ ds h => by cases h; rfl
theorem len_cons {f : Sem1} {fs : Rho → Rs (List Da)} {n : Nat} (h : ∀ (ρ : Rho) (ds : List Da), fs ρ = .ok ds → ds.length = n) : ∀ (ρ : Rho) (ds : List Da), aCons f fs ρ = .ok ds → ds.length = n + 1 := fun ρ ds q => by
  unfold aCons at q
  cases h1 : dat (f ρ) with
  | no => rw [h1] at q; cases q
  | ex c => rw [h1] at q; cases q
  | ok d =>
    rw [h1] at q
    simp only [Rs.bind] at q
    cases h2 : fs ρ with
    | no => rw [h2] at q; cases q
    | ex c => rw [h2] at q; cases q
    | ok ds' => rw [h2] at q; cases q; rw [List.length_cons, h ρ ds' h2]
end
end G6

namespace G6
open PySem PySem.Spec PyProof.Rows L2

/-! ### targets -/
def setV (σ : St) : List Nat → List V → St
  | i :: is, v :: vs => setV (σ.set i (some v)) is vs
  | _, _ => σ
def setR (ρ : Rho) : List Nat → List Da → Rho
  | i :: is, d :: ds => setR (ρ.set i (.sh d)) is ds
  | _, _ => ρ
abbrev Unp := Da → Option (List Da)
def un1 : Unp := fun d => some [d]
def unT : Unp := fun d => match d with
  | .tup xs => some xs
  | _ => none
def TgOk (T : Tx) (g : TG) (is : List Nat) (un : Unp) : Prop := ∀ (F H : Hp) (v : V) (d : Da) (ds : List Da) (σ : St) (Q : St → Hp → Prop), Ex F H → Rep T F v d → un d = some ds → ds.length = is.length →
  (∀ vs, RepAll T F vs ds → Q (setV σ is vs) H) → g v σ H Q
def TgsOk (g : TGs) (is : List Nat) : Prop := ∀ (vs : List V) (σ : St) (H : Hp) (Q : St → Hp → Prop), vs.length = is.length → Q (setV σ is vs) H → g vs σ H Q
section
variable {T : Tx}
theorem tg_name {i : Nat} : TgOk T (gName i) [i] un1 := fun F H v d ds σ Q e r h _ q => by
  cases h
  exact q [v] (.cons r .nil)
theorem tgs_nil : TgsOk gNil [] := fun vs σ H Q hl q => by
  cases vs with
  | nil => exact ⟨rfl, q⟩
  | cons _ _ => simp at hl
theorem tgs_cons {i : Nat} {g : TGs} {is : List Nat} (h : TgsOk g is) : TgsOk (gCons (gName i) g) (i :: is) := fun vs σ H Q hl q => by
  cases vs with
  | nil => simp at hl
  | cons v vs => exact ⟨v, vs, rfl, h vs _ H Q (by simpa using hl) q⟩
theorem tg_tup {g : TGs} {is : List Nat} {n : Nat} (h : TgsOk g is) (hn : is.length = n := by rfl) : TgOk T (gTup T.K n g) is unT := fun F H v d ds σ Q e r hu hl q => by
  cases r with
  | tup h1 r1 =>
    cases hu
    exact ⟨_, _, rfl, ex_t e h1, by rw [r1.length, hl, hn], h _ σ H Q (by rw [r1.length]; exact hl) (q _ r1)⟩
  | _ => cases hu
theorem tg_lst {g : TGs} {is : List Nat} {n : Nat} (h : TgsOk g is) (hn : is.length = n := by rfl) : TgOk T (gLst T.K n g) is asL := fun F H v d ds σ Q e r hu hl q => by
  obtain ⟨a, vs, rfl, h1, h2⟩ := r.list hu
  exact ⟨a, vs, rfl, ex_l e h1, by rw [h2.length, hl, hn], h _ σ H Q (by rw [h2.length]; exact hl) (q _ h2)⟩
end
section
variable {T : Tx} {F0 H0 F H : Hp}
theorem EnvOk.setM : ∀ {is : List Nat} {vs : List V} {ds : List Da} {σ : St} {ρ : Rho}, EnvOk T F0 H0 F H σ ρ → RepAll T F vs ds → EnvOk T F0 H0 F H (setV σ is vs) (setR ρ is ds)
  | [], _, _, _, _, h, _ => h
  | i :: is, _, _, _, _, h, .nil => h
  | i :: is, _, _, _, _, h, .cons r t => EnvOk.setM (is := is) (h.putD r) t
theorem View.put {σ : St} {ρ : Rho} {i : Nat} {v : V} {d : Da} (h : View T F σ ρ) (r : Rep T F v d) : View T F (σ.set i (some v)) (ρ.set i (.sh d)) := by
  refine ⟨by rw [List.length_set, List.length_set]; exact h.len, fun j s d' hs hv => ?_⟩
  by_cases e : i = j
  · subst e
    by_cases hl : i < ρ.length
    · rw [List.getElem?_set_self hl] at hs
      cases hs; cases hv
      rw [List.getElem?_set_self (by rw [h.len]; exact hl)]
      exact ⟨v, rfl, r⟩
    · rw [List.getElem?_eq_none (by rw [List.length_set]; omega)] at hs; cases hs
  · rw [List.getElem?_set_ne e] at hs ⊢
    exact h.at_ j s d' hs hv
theorem View.setM : ∀ {is : List Nat} {vs : List V} {ds : List Da} {σ : St} {ρ : Rho}, View T F σ ρ → RepAll T F vs ds → View T F (setV σ is vs) (setR ρ is ds)
  | [], _, _, _, _, h, _ => h
  | i :: is, _, _, _, _, h, .nil => h
  | i :: is, _, _, _, _, h, .cons r t => View.setM (is := is) (h.put r) t
end
def wipeR (ρ : Rho) : List Nat → Rho
  | [] => ρ
  | v :: vs => (wipeR ρ vs).set v .dead
theorem wipeR_length (ρ : Rho) : ∀ vs : List Nat, (wipeR ρ vs).length = ρ.length
  | [] => rfl
  | v :: vs => by unfold wipeR; rw [List.length_set, wipeR_length ρ vs]
theorem View.wipe {T : Tx} {F : Hp} {σ : St} {ρ : Rho} (h : View T F σ ρ) : ∀ vs : List Nat, View T F (L2.wipe σ vs) (wipeR ρ vs)
  | [] => h
  | v :: vs => by
    have ih := View.wipe h vs
    unfold L2.wipe wipeR
    refine ⟨by rw [List.length_set, List.length_set]; exact ih.len, fun j s d hs hv => ?_⟩
    by_cases e : v = j
    · subst e
      by_cases hl : v < (wipeR ρ vs).length
      · rw [List.getElem?_set_self hl] at hs; cases hs; cases hv
      · rw [List.getElem?_eq_none (by rw [List.length_set]; omega)] at hs; cases hs
    · rw [List.getElem?_set_ne e] at hs ⊢
      exact ih.at_ j s d hs hv
theorem wipe_get (σ : L2.St) : ∀ (vs : List Nat) (j : Nat), (L2.wipe σ vs)[j]? = if j ∈ vs then (if j < σ.length then some none else none) else σ[j]?
  | [], j => by simp [L2.wipe]
  | v :: vs, j => by
    unfold L2.wipe
    by_cases e : v = j
    · subst e
      rw [if_pos List.mem_cons_self]
      by_cases hl : v < σ.length
      · rw [List.getElem?_set_self (by rw [L2.wipe_length]; exact hl), if_pos hl]
      · rw [List.getElem?_eq_none (by rw [List.length_set, L2.wipe_length]; omega), if_neg hl]
    · rw [List.getElem?_set_ne e, wipe_get σ vs j]
      have : (j ∈ v :: vs) ↔ j ∈ vs := by
        rw [List.mem_cons]
        exact ⟨fun h => h.elim (fun z => absurd z.symm e) id, .inr⟩
      simp only [this]
theorem wipe_setV {vs : List Nat} : ∀ {is : List Nat} {xs : List V} {σ : L2.St}, (∀ i ∈ is, i ∈ vs) → L2.wipe (setV σ is xs) vs = L2.wipe σ vs
  | [], _, _, _ => rfl
  | i :: is, [], _, _ => rfl
  | i :: is, x :: xs, σ, h => by
    unfold setV
    rw [wipe_setV (fun j hj => h j (List.mem_cons_of_mem _ hj))]
    refine List.ext_getElem? fun j => ?_
    rw [wipe_get, wipe_get, List.length_set]
    by_cases hj : j ∈ vs
    · rw [if_pos hj, if_pos hj]
    · rw [if_neg hj, if_neg hj, List.getElem?_set_ne (fun e : i = j => hj (by rw [← e]; exact h i List.mem_cons_self))]
theorem wipe_wipe (σ : L2.St) (vs : List Nat) : L2.wipe (L2.wipe σ vs) vs = L2.wipe σ vs := by
  refine List.ext_getElem? fun j => ?_
  rw [wipe_get, wipe_get, L2.wipe_length]
  by_cases hj : j ∈ vs
  · rw [if_pos hj, if_pos hj]
  · rw [if_neg hj, if_neg hj]

/-! ### what is walked -/
def WalkD (T : Tx) (F : Hp) (J : It) (items : List Da) : Prop := Walk J items.length (fun Hc => Ex F Hc) fun i Hc x Hc' => ∀ F1, Ex F F1 → Ex F1 Hc → ∃ d F2, items[i]? = some d ∧ Grow F1 Hc F2 Hc' ∧ Rep T F2 x d
section
variable (T : Tx) (W : WX)
def PostI (σ : St) (F H : Hp) (R : It → Hp → Prop) : Rs (List Da) → Prop
  | .ok items => ∀ J F' H', Grow F H F' H' → WalkD T F' J items → R J H'
  | .ex c => PEx T W σ H c
  | .no => False
def tI (f : Rho → Rs (List Da)) : TI := fun σ H R => ∃ F ρ, Ex F H ∧ View T F σ ρ ∧ PostI T W σ F H R (f ρ)
end
def iL (un : Unp) (f : Sem1) : Rho → Rs (List Da) := fun ρ => (dat (f ρ)).bind fun d => ofO (un d)
def rngD (lo : Int) (n : Nat) : List Da := (List.range n).map fun (k : Nat) => Da.int (lo + (k : Int))
def iR1 (fs : Rho → Rs (List Da)) : Rho → Rs (List Da) := fun ρ => (fs ρ).bind fun ds => match ds with
  | [.int n] => if n ≤ 1000000 ∧ -1000000 ≤ n then .ok (rngD 0 n.toNat) else .no
  | _ => .no
def iR2 (fs : Rho → Rs (List Da)) : Rho → Rs (List Da) := fun ρ => (fs ρ).bind fun ds => match ds with
  | [.int a, .int b] => if -1000000 ≤ a ∧ a ≤ 1000000 ∧ b ≤ 1000000 ∧ -1000000 ≤ b then .ok (rngD a (b - a).toNat) else .no
  | _ => .no
def pairs (xs ys : List Da) : List Da := List.zipWith (fun x y => Da.tup [x, y]) xs ys
def iEnum (fs : Rho → Rs (List Da)) : Rho → Rs (List Da) := fun ρ => (fs ρ).bind fun ds => match ds with
  | [d] => (match asL d with
    | some xs => .ok (pairs (rngD 0 xs.length) xs)
    | none => .no)
  | _ => .no
def iZip (fs : Rho → Rs (List Da)) : Rho → Rs (List Da) := fun ρ => (fs ρ).bind fun ds => match ds with
  | [d, e] => (match asL d, asL e with
    | some xs, some ys => .ok (pairs xs ys)
    | _, _ => .no)
  | _ => .no
section
variable {X : Cx} {T : Tx} {W : WX} {tg l : Expr} {f : Sem1} {fs : Rho → Rs (List Da)} {p pos : Pos}
theorem pi_imp {e : Expr} {t t' : TI} (h : PI X tg e t) (i : ∀ σ H R, t' σ H R → t σ H R) : PI X tg e t' := ⟨fun pins s σ H R I hw => h.run pins s σ H R I (i σ H R hw)⟩
theorem walk_at {F : Hp} {J : It} {xs : List V} {ds : List Da} {G : Hp → Prop} (w : Walk J xs.length G (YAt xs)) (hG : ∀ Hc, Ex F Hc → G Hc) (r : RepAll T F xs ds) : WalkD T F J ds := by
  unfold WalkD
  rw [← r.length]
  refine w.mono hG fun i Hc x Hc' hi _ y F1 e1 e2 => ?_
  obtain ⟨rfl, y⟩ := y
  obtain ⟨d, h1, h2⟩ := r.get y
  exact ⟨d, F1, h1, Grow.refl e2, h2.mono e1⟩
theorem bind_i {α : Type} {R : It → Hp → Prop} {σ : St} {F H : Hp} {ρ : Rho} {k : Da → Rs (List Da)} {Q' : VK} (e : Ex F H) (vw : View T F σ ρ) (hp : PostI T W σ F H R ((dat (f ρ)).bind k))
    (q : ∀ d v F' H', Grow F H F' H' → Rep T F' v d → PostI T W σ F H R (k d) → Q' v H') : tD T W f σ H Q' :=
  seq_d (P := PostI T W σ F H R) e vw hp (fun z => z) (fun _ z => z) q
theorem i_list (hK : T.K = X.K) (hl : PE X l (tD T W f)) : PI X tg l (tI T W (iL asL f)) :=
  pi_imp (pi_list hl) fun σ H R ⟨F, ρ, e, vw, hp⟩ => bind_i (α := Unit) e vw hp fun d v F' H' g r hq => by
    cases hd : asL d with
    | none => rw [hd] at hq; exact hq.elim
    | some xs =>
      rw [hd] at hq
      obtain ⟨a, vs, rfl, h1, h2⟩ := r.list hd
      rw [hK] at h1
      exact ⟨a, rfl, ⟨vs, ex_l g.s h1⟩, hq _ F' H' g (walk_at walk_list (fun Hc e => ex_l e h1) h2)⟩
theorem i_tup (hK : T.K = X.K) (hl : PE X l (tD T W f)) : PI X tg l (tI T W (iL unT f)) :=
  pi_imp (pi_tup hl) fun σ H R ⟨F, ρ, e, vw, hp⟩ => bind_i (α := Unit) e vw hp fun d v F' H' g r hq => by
    cases r with
    | tup h1 h2 =>
      rw [hK] at h1
      exact ⟨_, rfl, ⟨_, ex_t g.s h1⟩, hq _ F' H' g (walk_at walk_tup (fun Hc e => ex_t e h1) h2)⟩
    | _ => exact hq.elim
theorem bind_ia {R : It → Hp → Prop} {σ : St} {F H : Hp} {ρ : Rho} {k : List Da → Rs (List Da)} {Q' : List V → Hp → Prop} (e : Ex F H) (vw : View T F σ ρ) (hp : PostI T W σ F H R ((fs ρ).bind k))
    (q : ∀ ds vs F' H', Grow F H F' H' → RepAll T F' vs ds → PostI T W σ F H R (k ds) → Q' vs H') : tA T W fs σ H Q' := by
  refine ⟨F, ρ, e, vw, ?_⟩
  cases hf : fs ρ with
  | no => rw [hf] at hp; exact hp.elim
  | ex c => rw [hf] at hp; exact hp
  | ok ds =>
    rw [hf] at hp
    intro vs F' H' g r
    exact q ds vs F' H' g r hp
theorem walk_rng {F : Hp} {lo : Int} {n : Nat} : WalkD T F (Itr lo n) (rngD lo n) := by
  have hl : (rngD lo n).length = n := by unfold rngD; rw [List.length_map, List.length_range]
  unfold WalkD
  rw [hl]
  refine walk_range.mono (fun _ _ => trivial) fun i Hc x Hc' hi _ y F1 e1 e2 => ?_
  obtain ⟨rfl, rfl⟩ := y
  refine ⟨.int (lo + i), F1, ?_, Grow.refl e2, .int _⟩
  unfold rngD
  rw [List.getElem?_map, List.getElem?_range hi]
  rfl
theorem i_range1 {a : Expr} (hg : Gl X "range") (hm : X.mg "range" = none) (ha : PA X [a] (tA T W fs)) (hs : starEach [a] X.env = [(false, eval a X.env)] := by rfl) : PI X tg (.Call (.Name "range" p) [a] [] pos) (tI T W (iR1 fs)) :=
  pi_imp (pi_range1 hg hm ha hs) fun σ H R ⟨F, ρ, e, vw, hp⟩ => bind_ia e vw hp fun ds vs F' H' g r hq => by
    split at hq
    · rename_i n
      split at hq
      · rename_i hz
        cases r with
        | cons r1 r2 => cases r1; cases r2; exact ⟨n, rfl, by omega, by omega, hq _ F' H' g walk_rng⟩
      · exact hq.elim
    · exact hq.elim
theorem i_range2 {a b : Expr} (hg : Gl X "range") (hm : X.mg "range" = none) (ha : PA X [a, b] (tA T W fs)) (hs : starEach [a, b] X.env = [(false, eval a X.env), (false, eval b X.env)] := by rfl)
    (hs2 : starEach [b] X.env = [(false, eval b X.env)] := by rfl) : PI X tg (.Call (.Name "range" p) [a, b] [] pos) (tI T W (iR2 fs)) :=
  pi_imp (pi_range2 hg hm ha hs hs2) fun σ H R ⟨F, ρ, e, vw, hp⟩ => bind_ia e vw hp fun ds vs F' H' g r hq => by
    split at hq
    · rename_i n m
      split at hq
      · rename_i hz
        cases r with
        | cons r1 r2 => cases r1; cases r2 with
          | cons r2 r3 => cases r2; cases r3; exact ⟨n, m, rfl, by omega, hq _ F' H' g walk_rng⟩
      · exact hq.elim
    · exact hq.elim
theorem pairs_get {xs ys : List Da} {i : Nat} {x y : Da} (h1 : xs[i]? = some x) (h2 : ys[i]? = some y) : (pairs xs ys)[i]? = some (.tup [x, y]) := by
  unfold pairs
  rw [List.getElem?_zipWith, h1, h2]
/-- pairs that are made on the way -/
theorem walk_pair {F : Hp} {J : It} {n : Nat} {xs ys : Nat → Option V} {ds es : List Da} {G : Hp → Prop} (w : Walk J n G (YPair xs ys)) (hG : ∀ Hc, Ex F Hc → G Hc) (hn : (pairs ds es).length = n)
    (hx : ∀ i x, i < n → xs i = some x → ∃ d, ds[i]? = some d ∧ Rep T F x d) (hy : ∀ i y, i < n → ys i = some y → ∃ d, es[i]? = some d ∧ Rep T F y d) : WalkD T F J (pairs ds es) := by
  unfold WalkD
  rw [hn]
  refine w.mono hG fun i Hc v Hc' hi _ y F1 e1 e2 => ?_
  obtain ⟨A, x, y, rfl, hA, rfl, h1, h2⟩ := y
  obtain ⟨d, d1, d2⟩ := hx i x hi h1
  obtain ⟨e, e1', e2'⟩ := hy i y hi h2
  have hF : F1 A = none := e2.back hA
  exact ⟨_, _, pairs_get d1 e1', Grow.new e2 hA, .tup (SqT.of upd_same) (.cons ((d2.mono e1).mono (Ex.new hF)) (.cons ((e2'.mono e1).mono (Ex.new hF)) .nil))⟩
theorem i_enum {e1 : Expr} {elts : List Expr} {kk : Nat} {tpos : Pos} (hK : T.K = X.K) (hg : Gl X "enumerate") (hm : X.mg "enumerate" = none) (ha : PA X [e1] (tA T W fs)) (hs : starEach [e1] X.env = [(false, eval e1 X.env)] := by rfl) :
    PI X (.Tuple elts kk tpos) (.Call (.Name "enumerate" p) [e1] [] pos) (tI T W (iEnum fs)) :=
  pi_imp (pi_enum hg hm ha hs) fun σ H R ⟨F, ρ, e, vw, hp⟩ => bind_ia e vw hp fun ds vs F' H' g r hq => by
    split at hq
    · rename_i d
      cases r with
      | cons r1 r2 =>
        cases r2
        cases hd : asL d with
        | none => rw [hd] at hq; exact hq.elim
        | some xs =>
          rw [hd] at hq
          obtain ⟨a, us, rfl, h1, h2⟩ := r1.list hd
          rw [hK] at h1
          have hl := h2.length
          refine ⟨a, us, rfl, ex_l g.s h1, hq _ F' H' g (walk_pair walk_enum (fun Hc e => ex_l e h1) ?_ (fun i x hi hx => ?_) fun i y hi hy => h2.get hy)⟩
          · unfold pairs rngD
            rw [List.length_zipWith, List.length_map, List.length_range, hl]
            omega
          · cases hx
            refine ⟨.int ((0 : Int) + (i : Nat)), ?_, by rw [Int.zero_add]; exact .int _⟩
            unfold rngD
            rw [List.getElem?_map, List.getElem?_range (by omega)]
            rfl
    · exact hq.elim
theorem i_zip {e1 e2 : Expr} {elts : List Expr} {kk : Nat} {tpos : Pos} (hK : T.K = X.K) (hg : Gl X "zip") (hm : X.mg "zip" = none) (ha : PA X [e1, e2] (tA T W fs))
    (hs : starEach [e1, e2] X.env = (false, eval e1 X.env) :: starEach [e2] X.env := by rfl) (hpl : (backTo pos (starEach [e2] X.env)).any (·.1) = false := by rfl) :
    PI X (.Tuple elts kk tpos) (.Call (.Name "zip" p) [e1, e2] [] pos) (tI T W (iZip fs)) :=
  pi_imp (pi_zip hg hm ha hs hpl) fun σ H R ⟨F, ρ, e, vw, hp⟩ => bind_ia e vw hp fun ds vs F' H' g r hq => by
    split at hq
    · rename_i d d'
      cases r with
      | cons r1 r2 => cases r2 with
        | cons r2 r3 =>
          cases r3
          cases hd : asL d with
          | none => rw [hd] at hq; exact hq.elim
          | some xs =>
            cases hd' : asL d' with
            | none => rw [hd, hd'] at hq; exact hq.elim
            | some ys =>
              rw [hd, hd'] at hq
              obtain ⟨a, us, rfl, h1, h2⟩ := r1.list hd
              obtain ⟨b, ws, rfl, h3, h4⟩ := r2.list hd'
              rw [hK] at h1 h3
              refine ⟨a, b, us, ws, rfl, ex_l g.s h1, ex_l g.s h3, hq _ F' H' g (walk_pair (walk_zip rfl) (fun Hc e => ⟨ex_l e h1, ex_l e h3⟩) ?_ (fun i x hi hx => h2.get hx) fun i y hi hy => h4.get hy)⟩
              unfold pairs
              rw [List.length_zipWith, h2.length, h4.length]
    · exact hq.elim
end
end G6

namespace G6
open PySem PySem.Spec PyProof.Rows L2

/-! ### for -/
def loopF (is : List Nat) (un : Unp) (g : SemS) : List Da → SemS
  | [], ρ => .nx ρ
  | d :: ds, ρ => match un d with
    | none => .no
    | some xs => if xs.length = is.length then
        (match g (setR ρ is xs) with
        | .nx ρ' => loopF is un g ds ρ'
        | .ct ρ' => loopF is un g ds ρ'
        | .bk ρ' => .nx ρ'
        | .rt s => .rt s
        | .ex c r => .ex c r
        | .no => .no) else .no
def sFor (fI : Rho → Rs (List Da)) (is : List Nat) (un : Unp) (g : SemS) : SemS := fun ρ => match fI (Rho.shs ρ) with
  | .ok items => loopF is un g items ρ
  | .ex c => .ex c ρ
  | .no => .no
section
variable {X : Cx} {T : Tx} {W : WX} {tg iter : Expr} {body : List Stmt} {fI : Rho → Rs (List Da)} {gT : TG} {is : List Nat} {un : Unp} {g : SemS} {pos : Pos}
theorem s_for (hp : PassesOwn (model X.prog X.w) X.A X.env X.xe) (hc : X.calm = true) (hi : PI X tg iter (tI T W fI)) (hg : PG X tg gT) (ht : TgOk T gT is un) (hb : PSs X body (tS T W g))
    (hs : ∀ x, foldedSetIterable iter X.env x = pure x := by intro _; rfl) : PS X (.For tg iter body [] pos) (tS T W (sFor fI is un g)) :=
  ps_imp (ps_for hp hc hi hg hb hs) fun D σ H ⟨F0, H0, F, ρ, ok, hp⟩ => ⟨F, Rho.shs ρ, ok.g.s, ok.viewF, by
    unfold sFor at hp
    cases hf : fI (Rho.shs ρ) with
    | no => rw [hf] at hp; exact hp
    | ex c => rw [hf] at hp; exact post_ex ok hp
    | ok items =>
      rw [hf] at hp
      intro J F1 H1 g1 wk
      refine for_it wk (fun i σ' H' => ∃ F' ρ', Ex F1 F' ∧ EnvOk T F0 H0 F' H' σ' ρ' ∧ PostS T W D F0 H0 F' (loopF is un g (items.drop i) ρ')) ⟨F1, ρ, Ex.refl F1, ok.ext g1, PostS.mono g1.f hp⟩
        (fun i σ' H' _ ⟨F', ρ', e, k, _⟩ => e.trans k.g.s) (fun i x σ' H' H2 hi ⟨F', ρ', e, k, hq⟩ hy => ?_) fun σ' H' ⟨F', ρ', e, k, hq⟩ => ?_
      · obtain ⟨d, F2, h1, h2, h3⟩ := hy F' e k.g.s
        have hd : items.drop i = d :: items.drop (i + 1) := by
          obtain ⟨hl, e1⟩ := List.getElem?_eq_some_iff.mp h1
          rw [List.drop_eq_getElem_cons hl, e1]
        rw [hd] at hq
        unfold loopF at hq
        cases hu : un d with
        | none => rw [hu] at hq; exact hq.elim
        | some xs =>
          rw [hu] at hq
          dsimp only at hq
          by_cases hl : xs.length = is.length
          · rw [if_pos hl] at hq
            refine ht F2 H2 x d xs σ' _ h2.s h3 hu hl fun vs rv => ?_
            refine ⟨F0, H0, F2, setR ρ' is xs, (k.ext h2).setM rv, ?_⟩
            have hq2 := PostS.mono h2.f hq
            cases hgo : g (setR ρ' is xs) with
            | nx ρ2 => rw [hgo] at hq2; exact fun σ3 F3 H3 e3 k3 => ⟨F3, ρ2, (e.trans h2.f).trans e3, k3, PostS.mono e3 hq2⟩
            | ct ρ2 => rw [hgo] at hq2; exact fun σ3 F3 H3 e3 k3 => ⟨F3, ρ2, (e.trans h2.f).trans e3, k3, PostS.mono e3 hq2⟩
            | bk ρ2 => rw [hgo] at hq2; exact hq2
            | rt s => rw [hgo] at hq2; exact hq2
            | ex c s => rw [hgo] at hq2; exact hq2
            | no => rw [hgo] at hq2; exact hq2
          · rw [if_neg hl] at hq; exact hq.elim
      · rw [List.drop_length] at hq
        exact hq σ' F' H' (Ex.refl F') k⟩
end
/-! ### comprehensions -/
theorem tYes_intro {σ : L2.St} {H : Hp} {Q : Bool → Hp → Prop} (h : Q true H) : tYes σ H Q := h
def W0 : WX := fun _ _ _ _ => False
def mapO {α β : Type} (k : α → Option β) : List α → Option (List β)
  | [] => some []
  | d :: ds => (k d).bind fun x => (mapO k ds).map (x :: ·)
theorem mapO_len {α β : Type} {k : α → Option β} : ∀ {ds : List α} {xs : List β}, mapO k ds = some xs → xs.length = ds.length
  | [], _, h => by cases h; rfl
  | d :: ds, xs, h => by
    simp only [mapO] at h
    cases hk : k d with
    | none => rw [hk] at h; cases h
    | some x =>
      rw [hk] at h
      cases hm : mapO k ds with
      | none => rw [hm] at h; cases h
      | some ys => rw [hm] at h; cases h; rw [List.length_cons, List.length_cons, mapO_len hm]
theorem mapO_get {α β : Type} {k : α → Option β} : ∀ {ds : List α} {xs : List β} {i : Nat} {d : α}, mapO k ds = some xs → ds[i]? = some d → ∃ x, xs[i]? = some x ∧ k d = some x
  | [], _, _, _, _, h => by simp at h
  | a :: ds, xs, i, d, h, hd => by
    simp only [mapO] at h
    cases hk : k a with
    | none => rw [hk] at h; cases h
    | some x =>
      rw [hk] at h
      cases hm : mapO k ds with
      | none => rw [hm] at h; cases h
      | some ys =>
        rw [hm] at h; cases h
        cases i with
        | zero =>
          have e : a = d := by simpa using hd
          subst e
          exact ⟨x, by simp, hk⟩
        | succ i =>
          obtain ⟨y, h1, h2⟩ := mapO_get (i := i) hm (by simpa using hd)
          exact ⟨y, by simpa using h1, h2⟩
/-- an element of a comprehension: as data; as a new list -/
def elD (is : List Nat) (un : Unp) (vs : List Nat) (fe : Sem1) (ρ : Rho) (d : Da) : Option Da := match un d with
  | none => none
  | some xs => if xs.length = is.length then (match dat (fe (setR (wipeR ρ vs) is xs)) with
      | .ok y => some y
      | _ => none) else none
def elO (is : List Nat) (un : Unp) (vs : List Nat) (fe : Sem1) (ρ : Rho) (d : Da) : Option (List Da) := match un d with
  | none => none
  | some xs => if xs.length = is.length then (match fe (setR (wipeR ρ vs) is xs) with
      | .ok (.ow ys) => some ys
      | _ => none) else none
def eLc (fI : Rho → Rs (List Da)) (is : List Nat) (un : Unp) (vs : List Nat) (fe : Sem1) : Sem1 := fun ρ => match fI ρ with
  | .ok items => if items.length ≤ 1000000 then (match mapO (elD is un vs fe ρ) items with
      | some xs => .ok (.ow xs)
      | none => .no) else .no
  | .ex c => .ex c
  | .no => .no
def eLc2 (fI : Rho → Rs (List Da)) (is : List Nat) (un : Unp) (vs : List Nat) (fe : Sem1) : Sem1 := fun ρ => match fI ρ with
  | .ok items => if items.length ≤ 1000000 then (match mapO (elO is un vs fe ρ) items with
      | some xs => .ok (.ow2 xs)
      | none => .no) else .no
  | .ex c => .ex c
  | .no => .no
theorem take_snoc {α : Type} {l : List α} {i : Nat} {x : α} (h : l[i]? = some x) : l.take (i + 1) = l.take i ++ [x] := by
  rw [List.take_add_one, h]; rfl
section
variable {T : Tx} {W : WX} {fI : Rho → Rs (List Da)} {gT : TG} {is : List Nat} {un : Unp} {vs : List Nat} {fe : Sem1}
theorem lc_core1 (ht : TgOk T gT is un) (hv : ∀ i ∈ is, i ∈ vs) : ∀ σ H Q, tD T W (eLc fI is un vs fe) σ H Q → tLc (tI T W fI) gT tYes (tD T W0 fe) vs σ H Q := fun σ H Q ⟨F, ρ, e, vw, hp⟩ => ⟨F, ρ, e, vw, by
  unfold eLc at hp
  cases hf : fI ρ with
  | no => rw [hf] at hp; exact hp
  | ex c => rw [hf] at hp; exact hp
  | ok items =>
    rw [hf] at hp
    dsimp only at hp
    by_cases hz : items.length ≤ 1000000
    · rw [if_pos hz] at hp
      cases hm : mapO (elD is un vs fe ρ) items with
      | none => rw [hm] at hp; exact hp.elim
      | some ys =>
        rw [hm] at hp
        intro J F1 H1 g1 wk D hD
        have hFD : F1 D = none := g1.s.back hD
        refine lc_it wk (fun i Hc => ∃ Fc us, Grow F1 H1 Fc Hc ∧ Fc D = none ∧ Hc D = some (.lst us) ∧ RepAll T Fc us (ys.take i)) ⟨F1, [], Grow.own g1.s hD, hFD, upd_same, .nil⟩
          (fun i Hc _ ⟨Fc, us, g, _⟩ => g.e) (fun i x Hc H2 hi ⟨Fc, us, g, hn, hl, r⟩ hy => ?_) fun Hc ⟨Fc, us, g, hn, hl, r⟩ => ?_
        · obtain ⟨d, F2, h1, h2, h3⟩ := hy Fc g.f g.s
          obtain ⟨y, hy1, hy2⟩ := mapO_get hm h1
          unfold elD at hy2
          cases hu : un d with
          | none => rw [hu] at hy2; cases hy2
          | some xs =>
            rw [hu] at hy2
            dsimp only at hy2
            by_cases hlen : xs.length = is.length
            · rw [if_pos hlen] at hy2
              refine ht F2 H2 x d xs _ _ h2.s h3 hu hlen fun zs rz => ⟨by rw [wipe_setV hv, wipe_wipe], ?_⟩
              refine tYes_intro ?_
              rw [if_pos rfl]
              have gF : Grow F H F2 H2 := (g1.trans g).trans h2
              refine ⟨F2, setR (wipeR ρ vs) is xs, h2.s, ((vw.mono gF.f).wipe vs).setM rz, ?_⟩
              cases hfe : fe (setR (wipeR ρ vs) is xs) with
              | no => rw [hfe] at hy2; cases hy2
              | ex c => rw [hfe] at hy2; cases hy2
              | ok s =>
                rw [hfe] at hy2
                cases hv' : s.view with
                | none => simp only [dat, hv'] at hy2; cases hy2
                | some y' =>
                  simp only [dat, hv', Option.some.injEq] at hy2
                  subst hy2
                  intro v F3 H3 g3 r3
                  obtain ⟨F4, g4, r4⟩ := r3.see g3 hv'
                  have hD2 : H2 D = some (.lst us) := h2.h _ _ hl
                  have hD3 : H3 D = some (.lst us) := g3.h _ _ hD2
                  have hF4 : F4 D = none := by
                    cases z : F4 D with
                    | none => rfl
                    | some o =>
                      rcases g4.n D o z with q | q
                      · rcases h2.n D o q with q' | q'
                        · rw [hn] at q'; cases q'
                        · rw [hl] at q'; cases q'
                      · rw [hD2] at q; cases q
                  have hlen2 : us.length ≤ 1000000 := by
                    rw [r.length, List.length_take, mapO_len hm]
                    omega
                  refine ⟨us, hD3, Nat.lt_of_le_of_lt hlen2 (by decide), F4, us ++ [v], ?_, hF4, upd_same, ?_⟩
                  · have gg : Grow F1 H1 F4 H3 := (g.trans h2).trans g4
                    exact ⟨gg.f, Ex.mut gg.h hD, Ex.mut gg.s hF4, gg.n⟩
                  · rw [take_snoc hy1]
                    exact (r.mono (h2.f.trans g4.f)).append (.cons r4 .nil)
            · rw [if_neg hlen] at hy2; cases hy2
        · refine hp (.ref D) Fc Hc (g1.trans g) ⟨D, us, rfl, g1.h.back hD, hn, hl, ?_⟩
          rw [← mapO_len hm, List.take_length] at r
          exact r
    · rw [if_neg hz] at hp; exact hp.elim⟩
theorem lc_core2 (ht : TgOk T gT is un) (hv : ∀ i ∈ is, i ∈ vs) : ∀ σ H Q, tD T W (eLc2 fI is un vs fe) σ H Q → tLc (tI T W fI) gT tYes (tD T W0 fe) vs σ H Q := fun σ H Q ⟨F, ρ, e, vw, hp⟩ => ⟨F, ρ, e, vw, by
  unfold eLc2 at hp
  cases hf : fI ρ with
  | no => rw [hf] at hp; exact hp
  | ex c => rw [hf] at hp; exact hp
  | ok items =>
    rw [hf] at hp
    dsimp only at hp
    by_cases hz : items.length ≤ 1000000
    · rw [if_pos hz] at hp
      cases hm : mapO (elO is un vs fe ρ) items with
      | none => rw [hm] at hp; exact hp.elim
      | some ys =>
        rw [hm] at hp
        intro J F1 H1 g1 wk D hD
        have hFD : F1 D = none := g1.s.back hD
        refine lc_it wk (fun i Hc => ∃ Fc as, Grow F1 H1 Fc Hc ∧ Fc D = none ∧ Hc D = some (.lst (as.map V.ref)) ∧ (D :: as).Nodup ∧ (∀ a ∈ as, H1 a = none ∧ Fc a = none) ∧ Rows T Fc Hc as (ys.take i))
          ⟨F1, [], Grow.own g1.s hD, hFD, upd_same, List.nodup_cons.mpr ⟨List.not_mem_nil, List.Pairwise.nil⟩, fun a ha => absurd ha List.not_mem_nil, trivial⟩
          (fun i Hc _ ⟨Fc, us, g, _⟩ => g.e) (fun i x Hc H2 hi ⟨Fc, as, g, hn, hl, nd, ha, r⟩ hy => ?_) fun Hc ⟨Fc, as, g, hn, hl, nd, ha, r⟩ => ?_
        · obtain ⟨d, F2, h1, h2, h3⟩ := hy Fc g.f g.s
          obtain ⟨y, hy1, hy2⟩ := mapO_get hm h1
          unfold elO at hy2
          cases hu : un d with
          | none => rw [hu] at hy2; cases hy2
          | some xs =>
            rw [hu] at hy2
            dsimp only at hy2
            by_cases hlen : xs.length = is.length
            · rw [if_pos hlen] at hy2
              refine ht F2 H2 x d xs _ _ h2.s h3 hu hlen fun zs rz => ⟨by rw [wipe_setV hv, wipe_wipe], ?_⟩
              refine tYes_intro ?_
              rw [if_pos rfl]
              have gF : Grow F H F2 H2 := (g1.trans g).trans h2
              refine ⟨F2, setR (wipeR ρ vs) is xs, h2.s, ((vw.mono gF.f).wipe vs).setM rz, ?_⟩
              cases hfe : fe (setR (wipeR ρ vs) is xs) with
              | no => rw [hfe] at hy2; cases hy2
              | ex c => rw [hfe] at hy2; cases hy2
              | ok s =>
                rw [hfe] at hy2
                cases s with
                | dead => cases hy2
                | sh _ => cases hy2
                | ow2 _ => cases hy2
                | ow zs' =>
                  cases hy2
                  intro v F3 H3 g3 r3
                  obtain ⟨p, us, rfl, p1, p2, p3, p4⟩ := r3
                  have hD2 : H2 D = some (.lst (as.map V.ref)) := h2.h _ _ hl
                  have hD3 : H3 D = some (.lst (as.map V.ref)) := g3.h _ _ hD2
                  have away : ∀ a o, Fc a = none → Hc a = some o → F3 a = none := fun a o z1 z2 => by
                    cases z : F3 a with
                    | none => rfl
                    | some o' =>
                      rcases g3.n a o' z with q | q
                      · rcases h2.n a o' q with q' | q'
                        · rw [z1] at q'; cases q'
                        · rw [z2] at q'; cases q'
                      · rw [h2.h _ _ z2] at q; cases q
                  have hlen2 : (as.map V.ref).length ≤ 1000000 := by
                    rw [List.length_map, r.length, List.length_take, mapO_len hm]
                    omega
                  have pD : p ≠ D := fun z => by rw [z, hD2] at p1; cases p1
                  have pas : p ∉ as := fun z => by
                    obtain ⟨o, ho⟩ := r.some_ p z
                    rw [h2.h _ _ ho] at p1; cases p1
                  obtain ⟨nd1, nd2⟩ := List.nodup_cons.mp nd
                  refine ⟨as.map V.ref, hD3, Nat.lt_of_le_of_lt hlen2 (by decide), F3, as ++ [p], ?_, away D _ hn hl, ?_, ?_, ?_, ?_⟩
                  · have gg : Grow F1 H1 F3 H3 := (g.trans h2).trans g3
                    exact ⟨gg.f, Ex.mut gg.h hD, Ex.mut gg.s (away D _ hn hl), gg.n⟩
                  · rw [upd_same, List.map_append]; rfl
                  · refine List.nodup_cons.mpr ⟨fun z => ?_, ?_⟩
                    · rcases List.mem_append.mp z with z | z
                      · exact nd1 z
                      · exact pD (List.mem_singleton.mp z).symm
                    · refine List.nodup_append.mpr ⟨nd2, List.nodup_cons.mpr ⟨List.not_mem_nil, List.Pairwise.nil⟩, fun a ha b hb e => ?_⟩
                      rw [List.mem_singleton.mp hb] at e
                      exact pas (e ▸ ha)
                  · intro a ha'
                    rcases List.mem_append.mp ha' with z | z
                    · obtain ⟨o, ho⟩ := r.some_ a z
                      exact ⟨(ha a z).1, away a o (ha a z).2 ho⟩
                    · rw [List.mem_singleton.mp z]
                      exact ⟨(g.trans h2).h.back p1, p2⟩
                  · rw [take_snoc hy1]
                    have rows_app : ∀ {as : List Addr} {xss : List (List Da)} {H : Hp} {p : Addr} {us : List V} {z : List Da}, Rows T F3 H as xss → H p = some (.lst us) → RepAll T F3 us z → Rows T F3 H (as ++ [p]) (xss ++ [z]) := by
                      intro as
                      induction as with
                      | nil =>
                        intro xss H p us z h1 h2 h3
                        cases xss with
                        | nil => exact ⟨⟨us, h2, h3⟩, trivial⟩
                        | cons _ _ => exact h1.elim
                      | cons a as ih =>
                        intro xss H p us z h1 h2 h3
                        cases xss with
                        | nil => exact h1.elim
                        | cons x xss => exact ⟨h1.1, ih h1.2 h2 h3⟩
                    refine rows_app (us := us) (Rows.mono (h2.f.trans g3.f) (fun a ha' => ?_) r) (by rw [upd_ne pD]; exact p3) p4
                    obtain ⟨o, ho⟩ := r.some_ a ha'
                    have : a ≠ D := fun z => nd1 (z ▸ ha')
                    rw [upd_ne this, ho]
                    exact g3.h _ _ (h2.h _ _ ho)
            · rw [if_neg hlen] at hy2; cases hy2
        · refine hp (.ref D) Fc Hc (g1.trans g) ⟨D, as, rfl, g1.h.back hD, hn, hl, nd, fun a z => ⟨g1.h.back (ha a z).1, (ha a z).2⟩, ?_⟩
          rw [← mapO_len hm, List.take_length] at r
          exact r
    · rw [if_neg hz] at hp; exact hp.elim⟩
end
section
variable {X : Cx} {T : Tx} {W : WX} {fI : Rho → Rs (List Da)} {gT : TG} {is : List Nat} {un : Unp} {fe : Sem1} {elt tg iter : Expr} {scope : Scope} {own : List (Str × Nat)} {pos : Pos}
theorem e_lc (hc : X.calm = true) (hN : X.N.Nodup) (hi : PI X tg iter (tI T W fI)) (ok : BlkOk X.N X.env.scope scope own) (ht : TgOk T gT is un) (hv : ∀ i ∈ is, i ∈ own.map (·.2))
    (hg : ∀ (s : Shared) (H : Hp) (C : Addr) (cl : List (Str × Addr)) (fp : List Addr), PG (X.blk s H scope (compEnvC scope cl C X.env) fp) tg gT)
    (he : ∀ (s : Shared) (H : Hp) (C : Addr) (cl : List (Str × Addr)) (fp : List Addr), PE (X.blk s H scope (compEnvC scope cl C X.env) fp) elt (tD T W0 fe)) (hs : ∀ x, foldedSetIterable iter X.env x = pure x := by intro _; rfl) :
    PE X (.ListComp elt [⟨tg, iter, [], 0⟩] scope pos) (tD T W (eLc fI is un (own.map (·.2)) fe)) :=
  pe_imp (pe_lc hc hN hi ok hg (fun _ _ _ _ _ => pts_nil) he hs) (lc_core1 ht hv)
theorem e_lc2 (hc : X.calm = true) (hN : X.N.Nodup) (hi : PI X tg iter (tI T W fI)) (ok : BlkOk X.N X.env.scope scope own) (ht : TgOk T gT is un) (hv : ∀ i ∈ is, i ∈ own.map (·.2))
    (hg : ∀ (s : Shared) (H : Hp) (C : Addr) (cl : List (Str × Addr)) (fp : List Addr), PG (X.blk s H scope (compEnvC scope cl C X.env) fp) tg gT)
    (he : ∀ (s : Shared) (H : Hp) (C : Addr) (cl : List (Str × Addr)) (fp : List Addr), PE (X.blk s H scope (compEnvC scope cl C X.env) fp) elt (tD T W0 fe)) (hs : ∀ x, foldedSetIterable iter X.env x = pure x := by intro _; rfl) :
    PE X (.ListComp elt [⟨tg, iter, [], 0⟩] scope pos) (tD T W (eLc2 fI is un (own.map (·.2)) fe)) :=
  pe_imp (pe_lc hc hN hi ok hg (fun _ _ _ _ _ => pts_nil) he hs) (lc_core2 ht hv)
variable {i : Nat} {y : Str} {py spos : Pos} {full : Bool} {fL : Sem1}
/-- name = [..] on one line -/
theorem s_lc {k : SemS} (hcore : ∀ D σ H, tS T W k D σ H → tD T W fL σ H fun x H1 => D.nx (σ.set i (some x)) H1) (hl : ∀ σ H Q, tD T W fL σ H Q → tLc (tI T W fI) gT tYes (tD T W0 fe) (own.map (·.2)) σ H Q)
    (hc : X.calm = true) (hN : X.N.Nodup) (hy : X.N[i]? = some y) (hyl : X.env.scope.names.lookup y = some .local) (hsw : swapsWith (.ListComp elt [⟨tg, iter, [], 0⟩] scope pos) (some (.Name y py)) spos.line X.env = pure true)
    (hi : PI X tg iter (tI T W fI)) (ok : BlkOk X.N X.env.scope scope own)
    (hg : ∀ (s : Shared) (H : Hp) (C : Addr) (cl : List (Str × Addr)) (fp : List Addr), PG (X.blk s H scope (compEnvC scope cl C X.env) fp) tg gT)
    (he : ∀ (s : Shared) (H : Hp) (C : Addr) (cl : List (Str × Addr)) (fp : List Addr), PE (X.blk s H scope (compEnvC scope cl C X.env) fp) elt (tD T W0 fe)) (hs : ∀ x, foldedSetIterable iter X.env x = pure x := by intro _; rfl) :
    PS X (.Assign [.Name y py] (.ListComp elt [⟨tg, iter, [], 0⟩] scope pos) spos) (tS T W k) :=
  ps_imp (ps_setLc hc hN hy hyl hsw hi ok hg (fun _ _ _ _ _ => pts_nil) he hs) fun D σ H h => hl σ H _ (hcore D σ H h)
end
end G6

namespace G6
open PySem PySem.Spec PyProof.Rows L2

/-! ### isinstance(x, T), T built in -/
inductive Ty where
  | int | bool | list | tuple | str
def Ty.name : Ty → String
  | .int => "int"
  | .bool => "bool"
  | .list => "list"
  | .tuple => "tuple"
  | .str => "str"
def isiB : Ty → Da → Option Bool
  | .int, .int _ => some true
  | .int, .bl _ => some true
  | .bool, .bl _ => some true
  | .list, .lst _ => some true
  | .list, .scr _ => some true
  | .tuple, .tup _ => some true
  | .tuple, .kt _ => some true
  | .str, .str _ => some true
  | _, .even _ => none
  | _, .unl _ _ => none
  | _, .err => none
  | _, _ => some false
def tyOf : Da → String
  | .non => "NoneType"
  | .bl _ => "bool"
  | .int _ => "int"
  | .str _ => "str"
  | .lst _ => "list"
  | .scr _ => "list"
  | .tup _ => "tuple"
  | .kt _ => "tuple"
  | .emp => "dict"
  | _ => ""
def kIsi (t : Ty) (d : Da) : Option Sl := (isiB t d).map fun b => .sh (.bl b)
theorem kit_all : ∀ t ∈ ["NoneType", "bool", "int", "str", "list", "tuple", "dict"], ∀ n ∈ ["int", "bool", "list", "tuple", "str"], kitB t n = some ((t == n) || (t == "bool" && n == "int")) := by decide +kernel
theorem isi_kit {t : Ty} {d : Da} {b : Bool} (h : isiB t d = some b) : kitB (tyOf d) t.name = some b := by
  cases t <;> cases d <;> first | (cases h; done) | (simp only [isiB, Option.some.injEq] at h; subst h; exact kit_all _ (by simp [tyOf]) _ (by simp [Ty.name]))
section
variable {X : Cx} {T : Tx} {W : WX} {a : Expr} {f : Sem1} {p p2 pos : Pos}
theorem Rep.ty {H : Hp} {v : V} {d : Da} (r : Rep T H v d) (he : ∀ x, d ≠ .even x) (hu : ∀ x y, d ≠ .unl x y) (hx : d ≠ .err) : TyX T.K H v (.type (tyOf d)) := by
  cases r with
  | non => exact .base .non
  | bl b => exact .base (.bl b)
  | int i => exact .base (.int i)
  | str s => exact .base (.str s)
  | lst h _ => exact .base (.lst h)
  | tup h _ =>
    rcases h with (h | ⟨o, h⟩) | ⟨o, its, n, h1, h2, _⟩
    · exact .base (.tup h)
    · exact .fTuple h
    · exact .kTuple h1 h2
  | kt h1 h2 _ _ _ => exact .kTuple h1 h2
  | scr h =>
    rcases h with (h | ⟨o, h⟩) | ⟨o, its, n, h1, h2, _⟩
    · exact .base (.lst h)
    · exact .base (.frz h)
    · exact .kList h1 h2
  | emp h => exact .base (.dK h)
  | even _ _ => exact (he _ rfl).elim
  | unl _ _ _ => exact (hu _ _ rfl).elim
  | err _ => exact (hx rfl).elim
theorem e_isi {t : Ty} {n : Str} (hK : T.K = X.K) (hg : Gl X "isinstance") (hm : X.mg "isinstance" = none) (ha : PE X a (tD T W f)) (hg2 : Gl X n) (hm2 : X.mg n = none) (hv2 : bootBuiltins n = some (.type t.name))
    (hn2 : n ≠ "__name__" := by decide) (hd2 : (n == ("__debug__" : Str)) = false := by decide) (hb : bootBuiltins "isinstance" = some (.builtin "isinstance") := by decide +kernel)
    (hs1 : starEach [.Name n p2] X.env = (false, eval (.Name n p2) X.env) :: starEach [] X.env := by rfl)
    (he : starEach (a :: [.Name n p2]) X.env = (false, eval a X.env) :: starEach [.Name n p2] X.env := by rfl) (hpl : (backTo pos (starEach [.Name n p2] X.env)).any (·.1) = false := by rfl) :
    PE X (.Call (.Name "isinstance" p) [a, .Name n p2] [] pos) (tD T W (eUn (kIsi t) f)) :=
  pe_imp (pe_callB call_isi hg hm hb (pa_cons ha (pa_cons (pe_bltn (v := .ty t.name) hg2 hm2 hv2 rfl hn2 hd2) pa_nil hs1) he) (by decide) (by decide) he hpl) fun σ H Q ⟨F, ρ, e, vw, hp⟩ => by
    refine bind_d e vw hp fun d v F1 H1 g1 r1 hp1 => ?_
    unfold kIsi at hp1
    cases hb : isiB t d with
    | none => rw [hb] at hp1; exact hp1.elim
    | some b =>
      rw [hb] at hp1
      refine ⟨v, .ty t.name, .type (tyOf d), .type t.name, b, rfl, .ty _, ?_, kit_ty (isi_kit hb), post_sh g1.s (.bl b) hp1⟩
      rw [← hK]
      refine (r1.mono g1.s).ty (fun x z => ?_) (fun x y z => ?_) fun z => ?_
      · subst z; cases t <;> cases hb
      · subst z; cases t <;> cases hb
      · subst z; cases t <;> cases hb
end

/-! ### raise -/
section
variable {X : Cx} {T : Tx} {W : WX} {C : Addr} {bmB : List Value} {B newId initId : String}
theorem s_raise {x m : Str} {j : Nat} {p p2 pos pos2 : Pos} (hmg : T.mg = X.mg) (hc : X.calm = true) (tk : L2N.Takes X W) (Fx : ExcBaseFacts B newId initId bmB) (q : PySem.W.excIn X.K C bmB newId = true) (gC : X.mg x = some (.ref C))
    (kC : PySem.W.keepIn X.K (.ref C) = true) (r : Raises X (.ref C)) (hg : Gl X x) (hdb : (x == ("__debug__" : Str)) = false := by decide) :
    PS X (.Raise (some (.Call (.Name x p) [.Constant (.str m) j p2] [] pos)) none pos2) (tS T W (sRaise x)) :=
  ps_imp (L2N.ps_raise hc tk (L2N.pmk_own Fx q gC kC r hg hdb)) fun D σ H ⟨F0, H0, F, ρ, ok, hp⟩ => hp C σ F H (by rw [hmg]; exact gC) (Ex.refl F) ok
end

/-! ### slices -/
def oNone : Rho → Rs (Option Int) := fun _ => .ok none
def oSome (f : Sem1) : Rho → Rs (Option Int) := fun ρ => (dat (f ρ)).bind fun d => match d with
  | .int i => .ok (some i)
  | _ => .no
def cut {α : Type} (xs : List α) (lo hi : Option Int) : List α := (xs.drop (HT.sIx xs.length 0 lo)).take (HT.sIx xs.length xs.length hi - HT.sIx xs.length 0 lo)
def eSl (f : Sem1) (lo hi : Rho → Rs (Option Int)) : Sem1 := fun ρ => (dat (f ρ)).bind fun d => (lo ρ).bind fun l => (hi ρ).bind fun h => match asL d with
  | some xs => .ok (.ow (cut xs l h))
  | none => .no
section
variable (T : Tx) (W : WX)
def PostO (σ : St) (F H : Hp) (Q : Option Int → Hp → Prop) : Rs (Option Int) → Prop
  | .ok b => ∀ F' H', Grow F H F' H' → Q b H'
  | .ex c => PEx T W σ H c
  | .no => False
def tO (f : Rho → Rs (Option Int)) : TO := fun σ H Q => ∃ F ρ, Ex F H ∧ View T F σ ρ ∧ PostO T W σ F H Q (f ρ)
end
section
variable {X : Cx} {T : Tx} {W : WX} {e : Expr} {f : Sem1} {lo hi : Option Expr} {fl fh : Rho → Rs (Option Int)} {p2 pos : Pos}
theorem po_imp {e : Option Expr} {t t' : TO} (h : PO X e t) (i : ∀ σ H Q, t' σ H Q → t σ H Q) : PO X e t' := ⟨fun pins s σ H Q I hw => h.run pins s σ H Q I (i σ H Q hw)⟩
theorem o_none : PO X none (tO T W oNone) := po_imp po_none fun σ H Q ⟨F, ρ, e, vw, hp⟩ => hp F H (Grow.refl e)
theorem o_some (h : PE X e (tD T W f)) : PO X (some e) (tO T W (oSome f)) := po_imp (po_some h) fun σ H Q ⟨F, ρ, e, vw, hp⟩ =>
  seq_d (P := PostO T W σ F H Q) e vw hp (fun z => z) (fun _ z => z) fun d v F' H' g r hq => by
    cases r with
    | int i => exact ⟨i, rfl, hq F' H' g⟩
    | _ => exact hq.elim
theorem bind_o {f : Rho → Rs (Option Int)} {k : Option Int → Rs Sl} {Q : VK} {Q' : Option Int → Hp → Prop} {σ : St} {F H : Hp} {ρ : Rho} (e : Ex F H) (vw : View T F σ ρ) (hp : Post T W σ F H Q ((f ρ).bind k))
    (q : ∀ b F' H', Grow F H F' H' → Post T W σ F' H' Q (k b) → Q' b H') : tO T W f σ H Q' := by
  refine ⟨F, ρ, e, vw, ?_⟩
  cases hf : f ρ with
  | no => rw [hf] at hp; exact hp.elim
  | ex c => rw [hf] at hp; exact hp
  | ok b =>
    rw [hf] at hp
    intro F' H' g
    exact q b F' H' g (Post.mono g hp)
theorem e_sl (hK : T.K = X.K) (he : PE X e (tD T W f)) (hl : PO X lo (tO T W fl)) (hh : PO X hi (tO T W fh)) : PE X (.Subscript e (.Slice lo hi none p2) pos) (tD T W (eSl f fl fh)) :=
  pe_imp (pe_slice sl_list he hl hh) fun σ H Q ⟨F, ρ, e, vw, hp⟩ => by
    refine bind_d e vw hp fun d v F1 H1 g1 r1 hp1 => ?_
    refine bind_o g1.s (vw.mono g1.f) hp1 fun l F2 H2 g2 hp2 => ?_
    refine bind_o g2.s ((vw.mono g1.f).mono g2.f) hp2 fun h F3 H3 g3 hp3 => ?_
    cases hd : asL d with
    | none => rw [hd] at hp3; exact hp3.elim
    | some xs =>
      rw [hd] at hp3
      obtain ⟨a, vs, rfl, h1, h2⟩ := (r1.mono (g2.f.trans g3.f)).list hd
      rw [hK] at h1
      refine ⟨a, vs, rfl, ex_l g3.s h1, fun p hn => new_ow g3.s ?_ hp3 hn⟩
      unfold cutV cut
      rw [h2.length]
      exact (h2.drop _).take _
/-- xs[::-1] -/
def kRev (d : Da) : Option Sl := (asL d).map fun xs => .ow xs.reverse
theorem e_rev {k : Nat} {p1 p2 p3 : Pos} (hK : T.K = X.K) (he : PE X e (tD T W f)) : PE X (.Subscript e (.Slice none none (some (.UnaryOp .USub (.Constant (.int 1) k p1) p2)) p3) pos) (tD T W (eUn kRev f)) :=
  pe_imp (pe_revL he) fun σ H Q ⟨F, ρ, e, vw, hp⟩ => by
    refine bind_d e vw hp fun d v F1 H1 g1 r1 hp1 => ?_
    unfold kRev at hp1
    cases hd : asL d with
    | none => rw [hd] at hp1; exact hp1.elim
    | some xs =>
      rw [hd] at hp1
      obtain ⟨a, vs, rfl, h1, h2⟩ := r1.list hd
      rw [hK] at h1
      exact ⟨a, vs, rfl, ex_l g1.s h1, fun p hn => new_ow g1.s h2.reverse hp1 hn⟩
end

/-! ### subscripts -/
section
variable {X : Cx} {T : Tx} {W : WX} {a b c : Expr} {f g h : Sem1} {pos : Pos}
theorem e_ix (hK : T.K = X.K) (ha : PE X a (tD T W f)) (hb : PE X b (tD T W g)) (hs : PlainIx b := by exact fun _ _ => rfl) : PE X (.Subscript a b pos) (tD T W (eOp kIx f g)) :=
  pe_imp (pe_ix (r := rIxA T.K) (by rw [hK]; exact ix_all) ha hb hs) (op_core rd_ix)
/-! ### chains -/
def eCh (k k' : Da → Da → Option Sl) (f g h : Sem1) : Sem1 := fun ρ => (dat (f ρ)).bind fun x => (dat (g ρ)).bind fun y => match k x y with
  | some (.sh (.bl true)) => (dat (h ρ)).bind fun z => ofO (k' y z)
  | some (.sh (.bl false)) => .ok (.sh (.bl false))
  | _ => .no
theorem chain_core {r r' : R2} {k k' : Da → Da → Option Sl} (hr : RD2 T r k) (hr' : RD2 T r' k') : ∀ σ H Q, tD T W (eCh k k' f g h) σ H Q → tChain r r' (tD T W f) (tD T W g) (tD T W h) σ H Q := fun σ H Q ⟨F, ρ, e, vw, hp⟩ => by
  refine bind_d e vw hp fun x v1 F1 H1 g1 r1 hp1 => ?_
  refine bind_d g1.s (vw.mono g1.f) hp1 fun y v2 F2 H2 g2 r2 hp2 => ?_
  cases hk : k x y with
  | none => rw [hk] at hp2; exact hp2.elim
  | some s =>
    rw [hk] at hp2
    cases s with
    | sh d => cases d with
      | bl b =>
        refine hr F2 H2 v1 v2 x y _ _ g2.s (r1.mono g2.f) r2 hk fun v F3 H3 g3 r3 => ?_
        have r3' : Rep T F3 v (.bl b) := r3
        cases r3'
        refine ⟨b, rfl, ?_⟩
        cases b with
        | false => rw [if_neg Bool.false_ne_true]; exact post_sh g3.s (.bl false) (Post.mono g3 hp2)
        | true =>
          rw [if_pos rfl]
          refine bind_d g3.s ((vw.mono g1.f).mono (g2.f.trans g3.f)) (Post.mono g3 hp2) fun z v3 F4 H4 g4 r4 hp4 => ?_
          cases hk' : k' y z with
          | none => rw [hk'] at hp4; exact hp4.elim
          | some s => rw [hk'] at hp4; exact hr' F4 H4 v2 v3 y z s Q g4.s (r2.mono (g3.f.trans g4.f)) r4 hk' hp4
      | _ => exact hp2.elim
    | _ => exact hp2.elim
theorem e_chain {op op' : CmpOp} {r r' : R2} {k k' : Da → Da → Option Sl} (hr : RD2 T r k) (hr' : RD2 T r' k') (ho : OpR X (compareOp op) r) (ho' : OpR X (compareOp op') r') (ha : PE X a (tD T W f)) (hb : PE X b (tD T W g)) (hc : PE X c (tD T W h))
    (hm : lastMarks [op, op'] [b, c] = false := by with_unfolding_all rfl) : PE X (.Compare a [op, op'] [b, c] pos) (tD T W (eCh k k' f g h)) := pe_imp (pe_chain ho ho' ha hb hc hm) (chain_core hr hr')
theorem t_chain {op op' : CmpOp} {r r' : R2} {k k' : Da → Da → Option Sl} (hr : RD2 T r k) (hr' : RD2 T r' k') (ho : OpR X (compareOp op) r) (ho' : OpR X (compareOp op') r') (ha : PE X a (tD T W f)) (hb : PE X b (tD T W g)) (hc : PE X c (tD T W h))
    (hm : lastMarks [op, op'] [b, c] = false := by with_unfolding_all rfl) : PT X (.Compare a [op, op'] [b, c] pos) (tT T W (fB (eCh k k' f g h))) :=
  pt_imp (pt_chain ho ho' ha hb hc hm) fun σ H Q q => chain_core hr hr' σ H _ (b_core σ H q)
end

/-! ### a, b = e -/
def sTgt (is : List Nat) (un : Unp) (full : Bool) (f : Sem1) : SemS := fun ρ => match dat (stf full f ρ) with
  | .ok d => (match un d with
    | some ds => if ds.length = is.length then .nx (setR ρ is ds) else .no
    | none => .no)
  | .ex c => .ex c ρ
  | .no => .no
/-- a, b = e1, e2 -/
def sPar (i j : Nat) (fs : Rho → Rs (List Da)) : SemS := fun ρ => match fs (Rho.shs ρ) with
  | .ok [d, e] => .nx ((ρ.set i (.sh d)).set j (.sh e))
  | .ex c => .ex c ρ
  | _ => .no
section
variable {X : Cx} {T : Tx} {W : WX} {tg e : Expr} {f : Sem1} {gT : TG} {is : List Nat} {un : Unp} {full : Bool} {pos : Pos} {fs : Rho → Rs (List Da)}
theorem s_tgt (he : PE X e (tD T W f)) (hg : PG X tg gT) (ht : TgOk T gT is un) (hs : swapsWithSole [tg] e pos.line X.env = pure false := by rfl) (hw : swappedStores [tg] e X.env = pure none := by rfl)
    (h1 : (assignEach [tg] X.env).map (·.2) = [assign tg X.env] := by rfl) : PS X (.Assign [tg] e pos) (tS T W (sTgt is un full f)) :=
  ps_imp (ps_asg he hg hs hw h1) fun D σ H ⟨F0, H0, F, ρ, ok, hp⟩ => by
    refine run_st (P := fun r => PostS T W D F0 H0 F (match dat r with | .ok d => (match un d with | some ds => if ds.length = is.length then .nx (setR ρ is ds) else .no | none => .no) | .ex c => .ex c ρ | .no => .no)) ok hp (fun z => z) (fun c z => post_ex ok z) fun s v F' H' g r hq => ?_
    cases hv : s.view with
    | none => simp only [dat, hv] at hq; exact hq.elim
    | some d =>
      simp only [dat, hv] at hq
      obtain ⟨F2, g2, r2⟩ := r.see g hv
      cases hu : un d with
      | none => rw [hu] at hq; exact hq.elim
      | some ds =>
        rw [hu] at hq
        dsimp only at hq
        by_cases hl : ds.length = is.length
        · rw [if_pos hl] at hq
          exact ht F2 H' v d ds σ _ g2.s r2 hu hl fun vs rv => hq _ F2 H' g2.f ((ok.ext g2).setM rv)
        · rw [if_neg hl] at hq; exact hq.elim
theorem s_par {i j : Nat} {x y : Str} {a b : Expr} {px py pt : Pos} {kt k2 pt2} (hc : X.calm = true) (hN : X.N.Nodup) (hi : X.N[i]? = some x) (hj : X.N[j]? = some y) (hij : i ≠ j)
    (hx : X.env.scope.names.lookup x = some .local) (hy : X.env.scope.names.lookup y = some .local) (ha : PA X [a, b] (tA T W fs))
    (hw : swappedStores [.Tuple [.Name x px, .Name y py] kt pt] (.Tuple [a, b] k2 pt2) X.env = pure (some [x, y]) := by rfl)
    (hs : swapsWithSole [.Tuple [.Name x px, .Name y py] kt pt] (.Tuple [a, b] k2 pt2) pos.line X.env = pure false := by rfl) :
    PS X (.Assign [.Tuple [.Name x px, .Name y py] kt pt] (.Tuple [a, b] k2 pt2) pos) (tS T W (sPar i j fs)) :=
  ps_imp (ps_par hc hN hi hj hij hx hy ha hw hs) fun D σ H ⟨F0, H0, F, ρ, ok, hp⟩ => ⟨F, Rho.shs ρ, ok.g.s, ok.viewF, by
    unfold sPar at hp
    cases hf : fs (Rho.shs ρ) with
    | no => rw [hf] at hp; exact hp
    | ex c => rw [hf] at hp; exact post_ex ok hp
    | ok ds =>
      rw [hf] at hp
      intro vs F' H' g r
      match ds, r, hp with
      | [d, e], .cons r1 (.cons r2 .nil), hp => exact ⟨_, _, rfl, hp _ F' H' g.f (((ok.ext g).putD r1).putD r2)⟩
      | [], _, hp => exact hp.elim
      | [_], _, hp => exact hp.elim
      | _ :: _ :: _ :: _, _, hp => exact hp.elim⟩
end
end G6

namespace G6
open PySem PySem.Spec PyProof.Rows L2

/-! ### a module's constant -/
section
variable {X : Cx} {T : Tx} {W : WX} {a b c d : Expr} {f g h k : Sem1} {pos p : Pos}
theorem e_globI {x : Str} {i : Int} {t : Tok} (hg : Gl X x) (hm : X.mg x = some (.int i t)) (hd : (x == ("__debug__" : Str)) = false := by decide) : PE X (.Name x pos) (tD T W (eC (.int i))) :=
  pe_imp (pe_glob (v := .int i) hg hm ⟨t, rfl⟩ hd) fun σ H Q ⟨F, ρ, e, vw, hp⟩ => post_sh e (.int i) hp
/-! ### a chain of three, as a test -/
def eCh3 (k1 k2 k3 : Da → Da → Option Sl) (f g h l : Sem1) : Sem1 := fun ρ => (dat (f ρ)).bind fun x => (dat (g ρ)).bind fun y => match k1 x y with
  | some (.sh (.bl true)) => (dat (h ρ)).bind fun z => (match k2 y z with
    | some (.sh (.bl true)) => (dat (l ρ)).bind fun w => ofO (k3 z w)
    | some (.sh (.bl false)) => .ok (.sh (.bl false))
    | _ => .no)
  | some (.sh (.bl false)) => .ok (.sh (.bl false))
  | _ => .no
def tChain3 (r r' r2 : R2) (ta tb tc td : TE) : TE := fun σ H Q => ta σ H fun x H1 => tb σ H1 fun y H2 => r x y H2 fun z H3 => ∃ k, z = .bl k ∧
  (if k = true then tc σ H3 fun w' H4 => r' y w' H4 fun z2 H5 => ∃ k2, z2 = .bl k2 ∧ (if k2 = true then td σ H5 fun w2 H6 => r2 w' w2 H6 Q else Q (.bl false) H5) else Q (.bl false) H3)
theorem pt_chain3 {ta tb tc td : TE} {op op' op2 : CmpOp} {r r' r2 : R2} (ho : OpR X (compareOp op) r) (ho' : OpR X (compareOp op') r') (ho2 : OpR X (compareOp op2) r2) (ha : PE X a ta) (hb : PE X b tb) (hc : PE X c tc) (hd : PE X d td)
    (hm : lastMarks [op, op', op2] [b, c, d] = false := by with_unfolding_all rfl) : PT X (.Compare a [op, op', op2] [b, c, d] pos) (tTest (tChain3 r r' r2 ta tb tc td)) := by
  refine ⟨fun pins s σ H Q I h => ?_⟩
  refine isTrue_chain (thn (ha.run pins s σ H _ I h) fun v s1 ⟨x, H1, I1, r1, q1⟩ => test_link (thn (hb.run pins s1 σ H1 _ I1 q1) fun u s2 ⟨y, H2, I2, r2, q2⟩ =>
    thn (ho pins s2 σ H2 x y v u _ I2 r1 r2 q2) fun d s3 ⟨z, H3, I3, r3, k, e, q3⟩ => ?_)) hm
  subst e
  cases r3
  refine wpAny_truthy_bool ?_
  cases k with
  | false =>
    obtain ⟨k', e', q'⟩ := q3
    cases e'
    exact ite_ff ⟨H3, I3, q'⟩
  | true =>
    refine ite_tt (test_link (thn (hc.run pins s3 σ H3 _ I3 q3) fun w' s4 ⟨z', H4, I4, r4, q4⟩ => thn (ho' pins s4 σ H4 y z' u w' _ I4 r2 r4 q4) fun d' s5 ⟨z2, H5, I5, r5, k2, e2, q5⟩ => ?_))
    subst e2
    cases r5
    refine wpAny_truthy_bool ?_
    cases k2 with
    | false =>
      obtain ⟨k', e', q'⟩ := q5
      cases e'
      exact ite_ff ⟨H5, I5, q'⟩
    | true =>
      refine ite_tt (test_last (thn (hd.run pins s5 σ H5 _ I5 q5) fun w2 s6 ⟨z3, H6, I6, r6, q6⟩ => thn (ho2 pins s6 σ H6 z' z3 w' w2 _ I6 r4 r6 q6) fun d' s7 ⟨z4, H7, I7, r7, k3, e3, q7⟩ => ?_))
      subst e3
      cases r7
      exact wpAny_truthy_bool ⟨H7, I7, q7⟩
theorem chain3_core {r r' r2 : R2} {k1 k2 k3 : Da → Da → Option Sl} (hr : RD2 T r k1) (hr' : RD2 T r' k2) (hr2 : RD2 T r2 k3) : ∀ σ H Q, tD T W (eCh3 k1 k2 k3 f g h k) σ H Q → tChain3 r r' r2 (tD T W f) (tD T W g) (tD T W h) (tD T W k) σ H Q := fun σ H Q ⟨F, ρ, e, vw, hp⟩ => by
  refine bind_d e vw hp fun x v1 F1 H1 g1 r1 hp1 => ?_
  refine bind_d g1.s (vw.mono g1.f) hp1 fun y v2 F2 H2 g2 r2 hp2 => ?_
  cases hk : k1 x y with
  | none => rw [hk] at hp2; exact hp2.elim
  | some s =>
    rw [hk] at hp2
    cases s with
    | sh d => cases d with
      | bl b =>
        refine hr F2 H2 v1 v2 x y _ _ g2.s (r1.mono g2.f) r2 hk fun v F3 H3 g3 r3 => ?_
        have r3' : Rep T F3 v (.bl b) := r3
        cases r3'
        refine ⟨b, rfl, ?_⟩
        cases b with
        | false => rw [if_neg Bool.false_ne_true]; exact post_sh g3.s (.bl false) (Post.mono g3 hp2)
        | true =>
          rw [if_pos rfl]
          refine bind_d g3.s ((vw.mono g1.f).mono (g2.f.trans g3.f)) (Post.mono g3 hp2) fun z v3 F4 H4 g4 r4 hp4 => ?_
          cases hk' : k2 y z with
          | none => rw [hk'] at hp4; exact hp4.elim
          | some s =>
            rw [hk'] at hp4
            cases s with
            | sh d => cases d with
              | bl b =>
                refine hr' F4 H4 v2 v3 y z _ _ g4.s (r2.mono (g3.f.trans g4.f)) r4 hk' fun v F5 H5 g5 r5 => ?_
                have r5' : Rep T F5 v (.bl b) := r5
                cases r5'
                refine ⟨b, rfl, ?_⟩
                cases b with
                | false => rw [if_neg Bool.false_ne_true]; exact post_sh g5.s (.bl false) (Post.mono g5 hp4)
                | true =>
                  rw [if_pos rfl]
                  refine bind_d g5.s ((((vw.mono g1.f).mono (g2.f.trans g3.f)).mono g4.f).mono g5.f) (Post.mono g5 hp4) fun w v4 F6 H6 g6 r6 hp6 => ?_
                  cases hk3 : k3 z w with
                  | none => rw [hk3] at hp6; exact hp6.elim
                  | some s => rw [hk3] at hp6; exact hr2 F6 H6 v3 v4 z w s Q g6.s (r4.mono (g5.f.trans g6.f)) r6 hk3 hp6
              | _ => exact hp4.elim
            | _ => exact hp4.elim
      | _ => exact hp2.elim
    | _ => exact hp2.elim
theorem t_chain3 {op op' op2 : CmpOp} {r r' r2 : R2} {k1 k2 k3 : Da → Da → Option Sl} (hr : RD2 T r k1) (hr' : RD2 T r' k2) (hr2 : RD2 T r2 k3) (ho : OpR X (compareOp op) r) (ho' : OpR X (compareOp op') r') (ho2 : OpR X (compareOp op2) r2)
    (ha : PE X a (tD T W f)) (hb : PE X b (tD T W g)) (hc : PE X c (tD T W h)) (hd : PE X d (tD T W k)) (hm : lastMarks [op, op', op2] [b, c, d] = false := by with_unfolding_all rfl) :
    PT X (.Compare a [op, op', op2] [b, c, d] pos) (tT T W (fB (eCh3 k1 k2 k3 f g h k))) :=
  pt_imp (pt_chain3 ho ho' ho2 ha hb hc hd hm) fun σ H Q q => chain3_core hr hr' hr2 σ H _ (b_core σ H q)
/-! ### min, max of a tuple of ints -/
def intsT (ds : List Da) : Option (List Int) := match ds with
  | [.tup xs] => asInts xs
  | _ => none
def kMin (ds : List Da) : Option Sl := match intsT ds with
  | some (n :: ns) => some (.sh (.int (ns.foldl min n)))
  | _ => none
def kMax (ds : List Da) : Option Sl := match intsT ds with
  | some (n :: ns) => some (.sh (.int (ns.foldl max n)))
  | _ => none
def rMinT (K : PySem.W.Frag) : List V → Hp → VK → Prop := fun vs H Q => ∃ (a : Addr) (n : Int) (ns : List Int), vs = [V.ref a] ∧ SqT K H a ((n :: ns).map V.int) ∧ Q (.int (ns.foldl min n)) H
def rMaxT (K : PySem.W.Frag) : List V → Hp → VK → Prop := fun vs H Q => ∃ (a : Addr) (n : Int) (ns : List Int), vs = [V.ref a] ∧ SqT K H a ((n :: ns).map V.int) ∧ Q (.int (ns.foldl max n)) H
theorem ints_reads {h : Heap} : ∀ {ns : List Int} {us : List Value}, Vals (ns.map V.int) us → ∃ as, ReadsAll h us (ns.map PyData.int) as
  | [], _, .nil => ⟨[], .nil⟩
  | n :: ns, _, .cons ⟨t, e⟩ r => by
    subst e
    obtain ⟨as, q⟩ := ints_reads (h := h) r
    exact ⟨_, .cons (.int _ _) q⟩
theorem ints_alike (ns : List Int) : PySem.W.AlikeAll (ns.map PyData.int) := by
  constructor
  · intro x hx y hy
    obtain ⟨i, _, rfl⟩ := List.mem_map.mp hx
    obtain ⟨j, _, rfl⟩ := List.mem_map.mp hy
    rfl
  · intro x hx z
    obtain ⟨i, _, rfl⟩ := List.mem_map.mp hx
    cases z
theorem dep_ints : ∀ ns : List Int, PyData.depthAll (ns.map .int) ≤ 1
  | [] => by simp [PyData.depthAll]
  | n :: ns => by
    rw [List.map_cons, PyData.depthAll]
    have := dep_ints ns
    have h2 : (PyData.int n).depth ≤ 1 := by simp [PyData.depth]
    omega
theorem read_int {h : Heap} {v : Value} {i : Int} {as : List Addr} (r : Reads h v (.int i) as) : ∃ t, v = .int i t := by
  cases r
  exact ⟨_, rfl⟩
theorem cr_minT (hc : X.calm = true) (hu : X.A.units + 64 < cLine) : CallR X (.builtin "min") (rMinT X.K) := by
  intro pins s σ H vs us Q I r h
  obtain ⟨a, n, ns, rfl, hs, q⟩ := h
  obtain ⟨its, rv, hl, _⟩ := I.tuple hs
  rw [Vals.ref1 r]
  obtain ⟨as, hr⟩ := ints_reads (h := s.heap) rv
  have hd := dep_ints (n :: ns)
  refine PySem.W.min_tuple_data (I.ok.hd hc) hl (x := .int n) (xs := ns.map .int) hr (ints_alike (n :: ns)) (by rw [List.map_cons] at hd; omega) fun i v h' tk bs hv hR hk => ?_
  rw [PySem.W.minD_ints] at hR
  obtain ⟨t, rfl⟩ := read_int hR
  exact ⟨.int _, H, I.kept hk, ⟨_, rfl⟩, q⟩
theorem cr_maxT (hc : X.calm = true) (hu : X.A.units + 64 < cLine) : CallR X (.builtin "max") (rMaxT X.K) := by
  intro pins s σ H vs us Q I r h
  obtain ⟨a, n, ns, rfl, hs, q⟩ := h
  obtain ⟨its, rv, hl, _⟩ := I.tuple hs
  rw [Vals.ref1 r]
  obtain ⟨as, hr⟩ := ints_reads (h := s.heap) rv
  have hd := dep_ints (n :: ns)
  refine PySem.W.max_tuple_data (I.ok.hd hc) hl (x := .int n) (xs := ns.map .int) hr (ints_alike (n :: ns)) (by rw [List.map_cons] at hd; omega) fun i v h' tk bs hv hR hk => ?_
  rw [PySem.W.maxD_ints] at hR
  obtain ⟨t, rfl⟩ := read_int hR
  exact ⟨.int _, H, I.kept hk, ⟨_, rfl⟩, q⟩
theorem intsT_sq {F H : Hp} {xs : List V} {ds : List Da} {ns : List Int} (ex : Ex F H) (r : RepAll T F xs ds) (h : intsT ds = some ns) : ∃ a, xs = [.ref a] ∧ SqT T.K H a (ns.map V.int) := by
  unfold intsT at h
  split at h
  · rename_i ys
    cases r with
    | cons r1 r2 => cases r2; cases r1 with
      | tup h1 h2 =>
        have e := asInts_map h
        subst e
        have e2 := h2.int_of
        subst e2
        exact ⟨_, rfl, ex_t ex h1⟩
  · cases h
theorem rd_min : RDA T (rMinT T.K) kMin := fun F H xs ds s Q ex r hk q => by
  unfold kMin at hk
  split at hk
  · rename_i n ns hi
    cases hk
    obtain ⟨a, rfl, h1⟩ := intsT_sq ex r hi
    exact ⟨a, n, ns, rfl, h1, q _ F H (Grow.refl ex) (.int _)⟩
  · cases hk
theorem rd_max : RDA T (rMaxT T.K) kMax := fun F H xs ds s Q ex r hk q => by
  unfold kMax at hk
  split at hk
  · rename_i n ns hi
    cases hk
    obtain ⟨a, rfl, h1⟩ := intsT_sq ex r hi
    exact ⟨a, n, ns, rfl, h1, q _ F H (Grow.refl ex) (.int _)⟩
  · cases hk
end
/-! ### t.index(x), t a tuple of data -/
def rIndexT (K : PySem.W.Frag) : V → List V → Hp → VK → Prop := fun x xs H Q => ∃ (a : Addr) (y : V) (d : PyData) (ds : List PyData) (j : Nat) (z : PyData), x = V.ref a ∧ xs = [y] ∧ Dp K H (V.ref a) (.tuple ds) ∧ Dp K H y d ∧
  SeqAt.shaped (.tuple ds) = true ∧ SeqAt.shaped d = true ∧ ds[j]? = some z ∧ PyData.eqv z d = true ∧ (∀ (m : Nat) (z' : PyData), m < j → ds[m]? = some z' → PyData.eqv z' d = false) ∧ Q (.int (j : Nat)) H
theorem mt_indexT {X : Cx} (hu : X.A.units + 65 < cLine) : MtR X "tuple.index" (rIndexT X.K) := by
  intro pins s σ H x xs v us Q I rx rxs h
  obtain ⟨a, y, d, ds, j, z, rfl, rfl, hl, hy, sl, sd, hz, hzj, hno, q⟩ := h
  cases rx
  cases rxs with
  | cons ry rt =>
    rename_i uy ut
    cases rt
    obtain ⟨bs, r1⟩ := Dp.reads I d y uy hy ry
    have hxs : PyData.canLayAll0 ds = true := SeqAt.canLay_of_shaped sl
    have hroom : X.A.units + 1 + min (PyData.depthAll ds) d.depth < cLine := room_in_shaped sd hu
    cases hl with
    | tup hs ha =>
      obtain ⟨its, rv, ⟨⟨cls, dd, data, sls⟩, ho, hc, n, hdt⟩, hlen⟩ := I.tuple hs
      simp only at hc hdt
      subst hc hdt
      obtain ⟨as, h4⟩ := Dp.readsAll I ds _ its ha rv
      have hn : its.length = ds.length := SeqAt.ReadsAll.length ds its as h4
      have hmap : its.map (SeqAt.readOf s.heap) = ds := SeqAt.readsAll_map ds its as hxs h4
      obtain ⟨hjd, _⟩ := List.getElem?_eq_some_iff.mp hz
      have hjl : j < its.length := by omega
      have hj : j < its.toArray.size := by simpa using hjl
      have at_ : ∀ (m : Nat) (hm : m < its.toArray.size) (z' : PyData), ds[m]? = some z' → SeqAt.readOf s.heap its.toArray[m] = z' := by
        intro m hm z' hz'
        have hml : m < its.length := by simpa using hm
        rw [← hmap, List.getElem?_map, List.getElem?_eq_getElem hml] at hz'
        have e1 : SeqAt.readOf s.heap its[m] = z' := Option.some.inj (show some (SeqAt.readOf s.heap its[m]) = some z' from hz')
        simpa using e1
      refine call_meets PySem.F.slot_tuple_index ⟨_, ho, rfl⟩ PySem.F.entry_tuple_index (PySem.F.args_tuple_index_2 _ _)
        (TI.tuple_indexAt a its.toArray n dd sls uy (fun u => PyData.eqv (SeqAt.readOf s.heap u) d) j hj ?_ ?_) ⟨ho, SeqAt.items_eqAt (vs := its.toArray) (show ReadsAll s.heap its.toArray.toList ds as from h4) r1 hxs (SeqAt.canLay_of_shaped sd) hroom, ?_⟩
      · show PyData.eqv (SeqAt.readOf s.heap its.toArray[j]) d = true
        rw [at_ j hj z hz]
        exact hzj
      · intro m hm hmj
        have hmd : m < ds.length := by omega
        have hz' : ds[m]? = some ds[m] := List.getElem?_eq_getElem hmd
        show PyData.eqv (SeqAt.readOf s.heap its.toArray[m]) d = false
        rw [at_ m hm _ hz']
        exact hno m _ hmj hz'
      · exact ⟨.int (j : Nat), H, I.tok _, ⟨_, rfl⟩, q⟩
/-- the first place of an equal one -/
def findD (d : Da) : List Da → Nat → Option Nat
  | [], _ => none
  | x :: xs, n => if eqF 8 x d = true then some n else findD d xs (n + 1)
def kIndexT (xs : List Da) (y : Da) : Option Sl := if (fits 8 (.tup xs) && fits 8 (nrm y)) = true then (findD (nrm y) xs 0).map fun (n : Nat) => .sh (.int (n : Int)) else none
def eIndexT (f g : Sem1) : Sem1 := fun ρ => (dat (f ρ)).bind fun x => match x with
  | .kt xs => (dat (g ρ)).bind fun y => ofO (kIndexT xs y)
  | _ => .no
theorem findD_spec {d : Da} : ∀ {xs : List Da} {n j : Nat}, findD d xs n = some j → ∃ i, j = n + i ∧ (∃ x, xs[i]? = some x ∧ eqF 8 x d = true) ∧ ∀ m x, m < i → xs[m]? = some x → eqF 8 x d = false
  | [], _, _, h => by cases h
  | x :: xs, n, j, h => by
    unfold findD at h
    split at h
    · rename_i hx
      cases h
      exact ⟨0, rfl, ⟨x, rfl, hx⟩, fun m _ hm => absurd hm (Nat.not_lt_zero m)⟩
    · rename_i hx
      obtain ⟨i, rfl, ⟨y, h1, h2⟩, h3⟩ := findD_spec h
      refine ⟨i + 1, by omega, ⟨y, by simpa using h1, h2⟩, fun m z hm hz => ?_⟩
      cases m with
      | zero =>
        have e : x = z := by simpa using hz
        subst e
        exact Bool.eq_false_iff.mpr hx
      | succ m => exact h3 m z (by omega) (by simpa using hz)
section
variable {X : Cx} {T : Tx} {W : WX} {o e : Expr} {f g : Sem1} {apos pos : Pos}
theorem fits_up : ∀ (n : Nat) (y : Da), fits n y = true → fits (n + 1) y = true := by
  intro n
  induction n with
  | zero => intro y hy; cases y <;> first | exact hy | (simp [fits] at hy)
  | succ n ih =>
    intro y hy
    cases y with
    | lst xs =>
      simp only [fits] at hy ⊢
      rw [List.all_eq_true] at hy ⊢
      exact fun z hz => ih z (hy z hz)
    | tup xs =>
      simp only [fits] at hy ⊢
      rw [List.all_eq_true] at hy ⊢
      exact fun z hz => ih z (hy z hz)
    | _ => first | exact hy | (simp [fits] at hy)
theorem e_indexT (hK : T.K = X.K) (hpe : PE X (.Call (.Attribute o "index" apos) [e] [] pos) (tBM X.K "tuple" (rIndexT X.K) (tD T W f) (tCons (tD T W g) tNil))) :
    PE X (.Call (.Attribute o "index" apos) [e] [] pos) (tD T W (eIndexT f g)) :=
  pe_imp hpe fun σ H Q ⟨F, ρ, ex, vw, hp⟩ => by
    refine bind_d ex vw hp fun x v1 F1 H1 g1 r1 hp1 => ?_
    cases r1 with
    | kt k1 k2 k3 hs rr =>
      refine ⟨.inr (.inl ⟨rfl, _, by rw [← hK]; exact k1, k2, k3⟩), ?_⟩
      refine bind_d g1.s (vw.mono g1.f) hp1 fun y v2 F2 H2 g2 r2 hp2 => ?_
      rename_i a ob vs ds
      show rIndexT X.K (.ref a) [v2] H2 Q
      unfold kIndexT at hp2
      split at hp2
      · rename_i hz
        rw [Bool.and_eq_true] at hz
        cases hf : findD (nrm y) ds 0 with
        | none => rw [hf] at hp2; exact hp2.elim
        | some j =>
          rw [hf] at hp2
          obtain ⟨i, rfl, ⟨z, z1, z2⟩, z3⟩ := findD_spec hf
          have hall : ds.all (fits 7) = true := by have := hz.1; simpa [fits] using this
          have fit : ∀ m u, ds[m]? = some u → fits 8 u = true := fun m u hu => fits_up 7 u (List.all_eq_true.mp hall u (List.mem_of_getElem? hu))
          have hr : Rep T F1 (.ref a) (.tup ds) := .tup hs rr
          have e1 := Rep.dp (T := T) (hr.mono g2.f) hz.1
          have e2 := Rep.dp (T := T) r2 hz.2
          rw [hK] at e1 e2
          refine ⟨a, v2, _, pyAll ds, i, z.py, rfl, rfl, Dp.mono g2.s e1, Dp.mono g2.s e2, fits_shaped hz.1, fits_shaped hz.2, ?_, ?_, ?_, ?_⟩
          · rw [pyAll_map, List.getElem?_map, z1]; rfl
          · rw [← eqF_eqv 8 _ _ (fit i z z1) hz.2]; exact z2
          · intro m z' hm hz'
            rw [pyAll_map, List.getElem?_map] at hz'
            cases hd : ds[m]? with
            | none => rw [hd] at hz'; cases hz'
            | some u =>
              rw [hd] at hz'
              cases hz'
              rw [← eqF_eqv 8 _ _ (fit m u hd) hz.2]
              exact z3 m u hm hd
          · rw [Nat.zero_add] at hp2
            exact post_sh g2.s (.int _) hp2
      · exact hp2.elim
    | _ => exact hp1.elim
/-! ### a written dict of the top: D[k], k a text -/
/-- what stands at each key: tuples of the written part -/
def KTab (T : Tx) (w : World) (a : Addr) (tab : Str → Option Da) : Prop := ∀ z d, tab z = some d → ∃ v, KDct T.K w a z v ∧ ∀ H : Hp, Rep T H v d
def eTab (tab : Str → Option Da) (f : Sem1) : Sem1 := fun ρ => (dat (f ρ)).bind fun x => match x with
  | .str z => (match tab z with
    | some d => .ok (.sh d)
    | none => .no)
  | _ => .no
theorem e_tab {x : Str} {a : Addr} {p : Pos} {tab : Str → Option Da} (hK : T.K = X.K) (D : KTab T X.w a tab) (hg : Gl X x) (hm : X.mg x = some (.ref a)) (he : PE X e (tD T W f)) (hd : (x == ("__debug__" : Str)) = false := by decide)
    (hs : PlainIx e := by exact fun _ _ => rfl) : PE X (.Subscript (.Name x p) e pos) (tD T W (eTab tab f)) :=
  pe_imp (pe_ix (r := rIxD X.K X.w) ix_kdict (pe_glob (v := .ref a) hg hm rfl hd) he hs) fun σ H Q ⟨F, ρ, ex, vw, hp⟩ => by
    refine bind_d ex vw hp fun y v F1 H1 g1 r1 hp1 => ?_
    cases r1 with
    | str z =>
      dsimp only at hp1
      cases ht : tab z with
      | none => rw [ht] at hp1; exact hp1.elim
      | some d =>
        rw [ht] at hp1
        obtain ⟨u, h1, h2⟩ := D z d ht
        rw [hK] at h1
        exact ⟨a, z, u, rfl, rfl, h1, post_sh g1.s (h2 F1) hp1⟩
    | _ => exact hp1.elim
end
end G6

namespace G6
open PySem PySem.Spec PyProof.Rows L2
theorem hu64 {k : Nat} {A : Around} (r : Room k A) : A.units + 64 < cLine := by have := r.un; omega
theorem hu65 {k : Nat} {A : Around} (r : Room k A) : A.units + 65 < cLine := by have := r.un; omega
theorem ktup_sq {K : PySem.W.Frag} {H : Hp} {a : Addr} {its : Array Value} {n : Nat} {sl : Array (Option Value)} {vs : List V} (h : K.lookup a = some ⟨.type "tuple", none, .seq its n, sl⟩) (r : Vals vs its.toList) (hz : its.size ≤ 1000 := by decide) : SqT K H a vs :=
  .inr ⟨_, its, n, h, rfl, rfl, small_size hz, r⟩
theorem kpair {T : Tx} {b : Addr} {i j : Int} {t r : Tok} {n : Nat} {sl : Array (Option Value)} (h : T.K.lookup b = some ⟨.type "tuple", none, .seq #[.int i t, .int j r] n, sl⟩) (H : Hp) : Rep T H (.ref b) (.tup [.int i, .int j]) :=
  .tup (ktup_sq (vs := [.int i, .int j]) h (.cons ⟨t, rfl⟩ (.cons ⟨r, rfl⟩ .nil)) (by simp)) (.cons (.int _) (.cons (.int _) .nil))
theorem kfour {T : Tx} {B b0 b1 b2 b3 : Addr} {d0 d1 d2 d3 : Da} {n : Nat} {sl : Array (Option Value)} {H : Hp} (h : T.K.lookup B = some ⟨.type "tuple", none, .seq #[.ref b0, .ref b1, .ref b2, .ref b3] n, sl⟩)
    (r0 : Rep T H (.ref b0) d0) (r1 : Rep T H (.ref b1) d1) (r2 : Rep T H (.ref b2) d2) (r3 : Rep T H (.ref b3) d3) : Rep T H (.ref B) (.kt [d0, d1, d2, d3]) :=
  .kt h rfl rfl (ktup_sq (vs := [.ref b0, .ref b1, .ref b2, .ref b3]) h (.cons rfl (.cons rfl (.cons rfl (.cons rfl .nil)))) (by simp)) (.cons r0 (.cons r1 (.cons r2 (.cons r3 .nil))))
section
variable {X : Cx} {T : Tx} {W : WX} {a b : Expr} {f g : Sem1} {pos : Pos}
theorem t_cmp {op : CmpOp} {r : R2} {k : Da → Da → Option Sl} (hr : RD2 T r k) (ho : OpR X (compareOp op) r) (ha : PE X a (tD T W f)) (hb : PE X b (tD T W g)) (hm : behindInMarks op b = false) :
    PT X (.Compare a [op] [b] pos) (tT T W (fB (eOp k f g))) := pt_imp (pt_cmpR ho ha hb hm) fun σ H Q q => op_core hr σ H _ (b_core σ H q)
end
theorem takesN {X : Cx} : L2N.Takes X W0 := fun _ _ ⟨_, _, _, _, _, _, _, _, _, _, _, _, _, _, _, _, w⟩ => w.elim
/-- the end of a law -/
theorem walk_end {l : PySem.W.OpenLaw} {k : Nat} {q : Program} {loose : List Str} {XP : (Str → Option Value) → Heap → Prop} {YP : World → Heap → Prop} {d : DefRec} {K : Params → PySem.W.Frag} {x : Str} {f : List Da → Rs Sl}
    (hn : l.most = some 63) (hdf : d.params.defaults = []) (hr : Room k callerA) (hY : ∀ (w : World) (h : Heap), YP w h → (K w.params).In h)
    (F : ∀ (w : World) (mg : Str → Option Value) (fa : Addr) (h : Heap), (K w.params).In h → h.Ns mainGlobals mg → mg d.name = some (.ref fa) →
      ∃ fd : FuncData, (∀ (s : Shared) (u : Value), BindsTo s fd ⟨[u], []⟩ [(x, u)]) ∧
        ∀ base : Heap, (K w.params).In base → base.Ns mainGlobals mg → ∃ T : Tx, T.K = K w.params ∧ FnOk l.prog w (K w.params) mg base (L2N.CX l.prog w) k fa fd [x] (spS T 1 f))
    (hf : ∀ ns : List Int, ns.length ≤ 63 → (∀ z ∈ ns, Builtin.Int.intBits z ≤ 1048576) → f [.scr ns] = .ok (.sh (.bl true))) :
    PySem.W.WalkO q loose XP YP l.row.toRowW d [] (fun f vs => PySem.call f vs) := by
  refine L2.walk_ofB (l := l) (n := 63) (k := k) (x := x) (K := K) (CX := fun w => L2N.CX l.prog w)
    (sp := fun w vs H Q _ => ∃ (a : Addr) (ns : List Int), vs = [.ref a] ∧ ns.length ≤ 63 ∧ (∀ z ∈ ns, Builtin.Int.intBits z ≤ 1048576) ∧ SqL (K w.params) H a (ns.map V.int) ∧ ∀ H', Q (.bl true) H')
    hn (by decide) hdf hr hY ?_ ?_ ?_
  · intro w mg fa h KX G hmg
    obtain ⟨fd, hb, hF⟩ := F w mg fa h KX G hmg
    refine ⟨fd, hb, fun base h1 h2 => ?_⟩
    obtain ⟨T, hT, ok⟩ := hF base h1 h2
    refine ok.imp fun vs H Q E ⟨a, ns, e, hl, hz, hS, q⟩ => ?_
    subst e
    refine ⟨rfl, H, [.scr ns], Ex.refl H, .cons (.scr (by rw [hT]; exact hS)) .nil, ?_⟩
    rw [hf ns hl hz]
    intro v F' H' g r
    have r' : Rep T F' v (.bl true) := r
    cases r'
    exact q H'
  · exact fun w H a ns hl hz _ hS => ⟨a, ns, rfl, hl, hz, hS, fun _ => rfl⟩
  · exact fun w H s e s' ⟨_, _, _, _, _, _, _, _, _, _, _, _, z⟩ => z
end G6

namespace G6
open PySem PySem.Spec PyProof.Rows L2
/-! ### own lists that are changed -/
section
variable {T : Tx} {F0 H0 F H : Hp} {σ : St} {ρ : Rho} {i : Nat}
theorem Grow.mut {p : Addr} {o : HO} (g : Grow F0 H0 F H) (h0 : H0 p = none) (hf : F p = none) : Grow F0 H0 F (upd H p o) := ⟨g.f, Ex.mut g.h h0, Ex.mut g.s hf, g.n⟩
theorem EnvOk.mutO {xs : List Da} (h : EnvOk T F0 H0 F H σ ρ) (hρ : ρ[i]? = some (.ow xs)) : ∃ (p : Addr) (vs : List V), σ[i]? = some (some (.ref p)) ∧ H p = some (.lst vs) ∧ RepAll T F vs xs ∧
    ∀ vs' xs', RepAll T F vs' xs' → EnvOk T F0 H0 F (upd H p (.lst vs')) σ (ρ.set i (.ow xs')) := by
  obtain ⟨o, h1, h2, h3, h4⟩ := h.ow
  obtain ⟨p, vs, q1, q2, q3, q4⟩ := h4 i _ hρ
  have hp : p ∈ o i := by rw [q1]; exact List.mem_cons_self
  obtain ⟨z1, z2, _⟩ := h3 i p hp
  refine ⟨p, vs, q2, q3, q4, fun vs' xs' r => ⟨h.g.mut z2 z1, by rw [List.length_set]; exact h.len, o, h1, h2, fun j a ha => ?_, fun j s hs => ?_⟩⟩
  · obtain ⟨y1, y2, u, y3⟩ := h3 j a ha
    refine ⟨y1, y2, ?_⟩
    by_cases e : a = p
    · subst e; exact ⟨_, upd_same⟩
    · exact ⟨u, by rw [upd_ne e]; exact y3⟩
  · by_cases e : i = j
    · subst e
      have hl : i < ρ.length := (List.getElem?_eq_some_iff.mp hρ).1
      rw [List.getElem?_set_self hl] at hs
      cases hs
      exact ⟨p, vs', q1, q2, upd_same, r⟩
    · rw [List.getElem?_set_ne e] at hs
      refine (h4 j s hs).mono (Ex.refl F) fun a ha => ?_
      have : a ≠ p := fun z => e (h2 i j p hp (z ▸ ha))
      rw [upd_ne this]
theorem Rows.get {F H : Hp} : ∀ {as : List Addr} {xss : List (List Da)} {k : Nat} {a : Addr}, Rows T F H as xss → as[k]? = some a → ∃ vs xs, xss[k]? = some xs ∧ H a = some (.lst vs) ∧ RepAll T F vs xs
  | [], _, k, a, _, h => by simp at h
  | b :: as, xs :: xss, 0, a, ⟨⟨vs, e, r⟩, t⟩, h => by
    simp at h; subst h; exact ⟨vs, xs, rfl, e, r⟩
  | b :: as, xs :: xss, k + 1, a, ⟨_, t⟩, h => by
    obtain ⟨vs, ys, h1, h2, h3⟩ := Rows.get (k := k) t (by simpa using h)
    exact ⟨vs, ys, by simpa using h1, h2, h3⟩
  | _ :: _, [], _, _, h, _ => h.elim
theorem Rows.put {F H : Hp} {vs' : List V} {xs' : List Da} (r : RepAll T F vs' xs') : ∀ {as : List Addr} {xss : List (List Da)} {k : Nat} {a : Addr}, as.Nodup → Rows T F H as xss → as[k]? = some a → Rows T F (upd H a (.lst vs')) as (xss.set k xs')
  | [], _, k, a, _, _, h => by simp at h
  | b :: as, xs :: xss, 0, a, nd, ⟨_, t⟩, h => by
    simp at h; subst h
    obtain ⟨n1, n2⟩ := List.nodup_cons.mp nd
    exact ⟨⟨vs', upd_same, r⟩, Rows.mono (Ex.refl F) (fun c hc => upd_ne fun z => n1 (z ▸ hc)) t⟩
  | b :: as, xs :: xss, k + 1, a, nd, ⟨⟨vs, e, q⟩, t⟩, h => by
    obtain ⟨n1, n2⟩ := List.nodup_cons.mp nd
    have h' : as[k]? = some a := by simpa using h
    refine ⟨⟨vs, ?_, q⟩, Rows.put r (k := k) n2 t h'⟩
    have hne : b ≠ a := fun z => n1 (z ▸ List.mem_of_getElem? h')
    rw [upd_ne hne]
    exact e
  | _ :: _, [], _, _, _, h, _ => h.elim
theorem EnvOk.mut2 {xss : List (List Da)} (h : EnvOk T F0 H0 F H σ ρ) (hρ : ρ[i]? = some (.ow2 xss)) : ∃ (p : Addr) (as : List Addr), σ[i]? = some (some (.ref p)) ∧ H p = some (.lst (as.map V.ref)) ∧ as.length = xss.length ∧
    ∀ k a, as[k]? = some a → ∃ vs xs, xss[k]? = some xs ∧ H a = some (.lst vs) ∧ RepAll T F vs xs ∧ ∀ vs' xs', RepAll T F vs' xs' → EnvOk T F0 H0 F (upd H a (.lst vs')) σ (ρ.set i (.ow2 (xss.set k xs'))) := by
  obtain ⟨o, h1, h2, h3, h4⟩ := h.ow
  obtain ⟨p, as, q1, q2, q3, q4⟩ := h4 i _ hρ
  refine ⟨p, as, q2, q3, q4.length, fun k a hk => ?_⟩
  obtain ⟨vs, xs, e1, e2, e3⟩ := q4.get hk
  have ham : a ∈ as := List.mem_of_getElem? hk
  have ha : a ∈ o i := by rw [q1]; exact List.mem_cons_of_mem _ ham
  obtain ⟨z1, z2, _⟩ := h3 i a ha
  have nd := h1 i
  rw [q1] at nd
  obtain ⟨n1, n2⟩ := List.nodup_cons.mp nd
  have pa : p ≠ a := fun z => n1 (z ▸ ham)
  refine ⟨vs, xs, e1, e2, e3, fun vs' xs' r => ⟨h.g.mut z2 z1, by rw [List.length_set]; exact h.len, o, h1, h2, fun j b hb => ?_, fun j s hs => ?_⟩⟩
  · obtain ⟨y1, y2, u, y3⟩ := h3 j b hb
    refine ⟨y1, y2, ?_⟩
    by_cases e : b = a
    · subst e; exact ⟨_, upd_same⟩
    · exact ⟨u, by rw [upd_ne e]; exact y3⟩
  · by_cases e : i = j
    · subst e
      have hl : i < ρ.length := (List.getElem?_eq_some_iff.mp hρ).1
      rw [List.getElem?_set_self hl] at hs
      cases hs
      exact ⟨p, as, q1, q2, by rw [upd_ne pa]; exact q3, q4.put r n2 hk⟩
    · rw [List.getElem?_set_ne e] at hs
      refine (h4 j s hs).mono (Ex.refl F) fun b hb => ?_
      have : b ≠ a := fun z => e (h2 i j a ha (z ▸ hb))
      rw [upd_ne this]
/-- an empty list, seen as one of rows -/
def as2 : Sl → Option (List (List Da))
  | .ow [] => some []
  | .ow2 xss => some xss
  | _ => none
theorem SlE.as2 {A : List Addr} {v : Option (Option V)} {s : Sl} {xss : List (List Da)} (h : SlE T F H A v s) (e : as2 s = some xss) : SlE T F H A v (.ow2 xss) := by
  unfold G6.as2 at e
  split at e
  · cases e
    obtain ⟨p, vs, q1, q2, q3, q4⟩ := h
    cases q4
    exact ⟨p, [], q1, q2, q3, trivial⟩
  · cases e; exact h
  · cases e
theorem Rows.append {F H : Hp} {as : List Addr} {xss : List (List Da)} {p : Addr} {us : List V} {z : List Da} (h : Rows T F H as xss) (h2 : H p = some (.lst us)) (h3 : RepAll T F us z) : Rows T F H (as ++ [p]) (xss ++ [z]) := by
  induction as generalizing xss with
  | nil => cases xss with
    | nil => exact ⟨⟨us, h2, h3⟩, trivial⟩
    | cons _ _ => exact h.elim
  | cons a as ih => cases xss with
    | nil => exact h.elim
    | cons x xss => exact ⟨h.1, ih h.2⟩
/-- an own row goes into an own list of rows -/
theorem EnvOk.move {j : Nat} {s : Sl} {xss : List (List Da)} {xs : List Da} (h : EnvOk T F0 H0 F H σ ρ) (hij : i ≠ j) (hi : ρ[i]? = some s) (hs : as2 s = some xss) (hj : ρ[j]? = some (.ow xs)) :
    ∃ (p : Addr) (as : List Addr) (q : Addr), σ[i]? = some (some (.ref p)) ∧ H p = some (.lst (as.map V.ref)) ∧ as.length = xss.length ∧ σ[j]? = some (some (.ref q)) ∧
      EnvOk T F0 H0 F (upd H p (.lst (as.map V.ref ++ [V.ref q]))) σ ((ρ.set i (.ow2 (xss ++ [xs]))).set j .dead) := by
  obtain ⟨o, h1, h2, h3, h4⟩ := h.ow
  obtain ⟨p, as, q1, q2, q3, q4⟩ := (h4 i _ hi).as2 hs
  obtain ⟨q, vs, w1, w2, w3, w4⟩ := h4 j _ hj
  have hp : p ∈ o i := by rw [q1]; exact List.mem_cons_self
  have hq : q ∈ o j := by rw [w1]; exact List.mem_cons_self
  obtain ⟨z1, z2, _⟩ := h3 i p hp
  have nd := h1 i
  rw [q1] at nd
  obtain ⟨n1, n2⟩ := List.nodup_cons.mp nd
  have qn : q ∉ o i := fun z => hij (h2 i j q z hq)
  have pq : q ≠ p := fun z => qn (z ▸ hp)
  refine ⟨p, as, q, q2, q3, q4.length, w2, ⟨h.g.mut z2 z1, by rw [List.length_set, List.length_set]; exact h.len, fun l => if l = i then p :: (as ++ [q]) else if l = j then [] else o l, fun l => ?_, fun l m a ha hb => ?_, fun l a ha => ?_, fun l t ht => ?_⟩⟩
  · dsimp only
    split
    · refine List.nodup_cons.mpr ⟨fun z => ?_, List.nodup_append.mpr ⟨n2, List.nodup_cons.mpr ⟨List.not_mem_nil, List.Pairwise.nil⟩, fun a ha b hb e => ?_⟩⟩
      · rcases List.mem_append.mp z with z | z
        · exact n1 z
        · exact pq (List.mem_singleton.mp z).symm
      · rw [List.mem_singleton.mp hb] at e
        exact qn (by rw [q1]; exact List.mem_cons_of_mem _ (e ▸ ha))
    · split
      · exact List.Pairwise.nil
      · exact h1 l
  · have key : ∀ l a, a ∈ (if l = i then p :: (as ++ [q]) else if l = j then [] else o l) → (l = i ∧ (a ∈ o i ∨ a = q)) ∨ (l ≠ i ∧ l ≠ j ∧ a ∈ o l) := fun l a ha => by
      by_cases e1 : l = i
      · rw [if_pos e1] at ha
        refine .inl ⟨e1, ?_⟩
        rcases List.mem_cons.mp ha with z | z
        · exact .inl (z ▸ hp)
        · rcases List.mem_append.mp z with z | z
          · exact .inl (by rw [q1]; exact List.mem_cons_of_mem _ z)
          · exact .inr (List.mem_singleton.mp z)
      · rw [if_neg e1] at ha
        by_cases e2 : l = j
        · rw [if_pos e2] at ha; cases ha
        · rw [if_neg e2] at ha; exact .inr ⟨e1, e2, ha⟩
    rcases key l a ha with ⟨e1, a1⟩ | ⟨e1, e2, a1⟩ <;> rcases key m a hb with ⟨e3, a2⟩ | ⟨e3, e4, a2⟩
    · rw [e1, e3]
    · rcases a1 with a1 | a1
      · exact absurd (h2 i m a a1 a2).symm e3
      · exact absurd (h2 j m q hq (a1 ▸ a2)).symm e4
    · rcases a2 with a2 | a2
      · exact absurd (h2 i l a a2 a1).symm e1
      · exact absurd (h2 j l q hq (a2 ▸ a1)).symm e2
    · exact h2 l m a a1 a2
  · have : ∃ l', a ∈ o l' := by
      by_cases e1 : l = i
      · simp only [if_pos e1] at ha
        rcases List.mem_cons.mp ha with z | z
        · exact ⟨i, z ▸ hp⟩
        · rcases List.mem_append.mp z with z | z
          · exact ⟨i, by rw [q1]; exact List.mem_cons_of_mem _ z⟩
          · exact ⟨j, (List.mem_singleton.mp z) ▸ hq⟩
      · simp only [if_neg e1] at ha
        by_cases e2 : l = j
        · simp only [if_pos e2] at ha; cases ha
        · simp only [if_neg e2] at ha; exact ⟨l, ha⟩
    obtain ⟨l', hl'⟩ := this
    obtain ⟨y1, y2, u, y3⟩ := h3 l' a hl'
    refine ⟨y1, y2, ?_⟩
    by_cases e : a = p
    · subst e; exact ⟨_, upd_same⟩
    · exact ⟨u, by rw [upd_ne e]; exact y3⟩
  · by_cases e2 : j = l
    · subst e2
      by_cases hl : j < ρ.length
      · rw [List.getElem?_set_self (by rw [List.length_set]; exact hl)] at ht
        cases ht
        show (if j = i then p :: (as ++ [q]) else if j = j then [] else o j) = []
        rw [if_neg (Ne.symm hij), if_pos rfl]
      · rw [List.getElem?_eq_none (by rw [List.length_set, List.length_set]; omega)] at ht; cases ht
    · rw [List.getElem?_set_ne e2] at ht
      by_cases e1 : i = l
      · subst e1
        have hl : i < ρ.length := (List.getElem?_eq_some_iff.mp hi).1
        rw [List.getElem?_set_self hl] at ht
        cases ht
        refine ⟨p, as ++ [q], by simp only [if_true], q2, by rw [upd_same, List.map_append]; rfl, ?_⟩
        refine Rows.append (us := vs) (Rows.mono (Ex.refl F) (fun a ha => upd_ne fun z => n1 (z ▸ ha)) q4) (by rw [upd_ne pq]; exact w3) w4
      · rw [List.getElem?_set_ne e1] at ht
        simp only [if_neg (Ne.symm e1), if_neg (Ne.symm e2)]
        refine (h4 l t ht).mono (Ex.refl F) fun a ha => ?_
        have : a ≠ p := fun z => e1 (h2 i l p hp (z ▸ ha))
        rw [upd_ne this]
/-- a slot forgotten, whatever it holds -/
theorem EnvOk.kill {v : V} (h : EnvOk T F0 H0 F H σ ρ) : EnvOk T F0 H0 F H (σ.set i (some v)) (ρ.set i .dead) := by
  obtain ⟨o, h1, h2, h3, h4⟩ := h.ow
  refine ⟨h.g, by rw [List.length_set, List.length_set]; exact h.len, fun l => if l = i then [] else o l, fun l => ?_, fun l m a ha hb => ?_, fun l a ha => ?_, fun l t ht => ?_⟩
  · dsimp only
    split
    · exact List.Pairwise.nil
    · exact h1 l
  · by_cases e1 : l = i
    · simp only [if_pos e1] at ha; cases ha
    · by_cases e2 : m = i
      · simp only [if_pos e2] at hb; cases hb
      · simp only [if_neg e1] at ha
        simp only [if_neg e2] at hb
        exact h2 l m a ha hb
  · by_cases e1 : l = i
    · simp only [if_pos e1] at ha; cases ha
    · simp only [if_neg e1] at ha; exact h3 l a ha
  · by_cases e : i = l
    · subst e
      by_cases hl : i < ρ.length
      · rw [List.getElem?_set_self hl] at ht
        cases ht
        simp only [if_true]
        rfl
      · rw [List.getElem?_eq_none (by rw [List.length_set]; omega)] at ht; cases ht
    · rw [List.getElem?_set_ne e] at ht ⊢
      simp only [if_neg (Ne.symm e)]
      exact h4 l t ht
/-- the last row is taken off -/
theorem EnvOk.pop2 {xss : List (List Da)} (h : EnvOk T F0 H0 F H σ ρ) (hρ : ρ[i]? = some (.ow2 xss)) : ∃ (p : Addr) (as : List Addr), σ[i]? = some (some (.ref p)) ∧ H p = some (.lst (as.map V.ref)) ∧ as.length = xss.length ∧
    EnvOk T F0 H0 F (upd H p (.lst (as.map V.ref).dropLast)) σ (ρ.set i (.ow2 xss.dropLast)) := by
  obtain ⟨o, h1, h2, h3, h4⟩ := h.ow
  obtain ⟨p, as, q1, q2, q3, q4⟩ := h4 i _ hρ
  have hp : p ∈ o i := by rw [q1]; exact List.mem_cons_self
  obtain ⟨z1, z2, _⟩ := h3 i p hp
  have nd := h1 i
  rw [q1] at nd
  obtain ⟨n1, n2⟩ := List.nodup_cons.mp nd
  have sub : ∀ l a, a ∈ (if l = i then p :: as.dropLast else o l) → a ∈ o l := fun l a ha => by
    by_cases e : l = i
    · rw [if_pos e] at ha
      subst e
      rw [q1]
      rcases List.mem_cons.mp ha with z | z
      · exact z ▸ List.mem_cons_self
      · exact List.mem_cons_of_mem _ (List.dropLast_subset _ z)
    · rw [if_neg e] at ha; exact ha
  refine ⟨p, as, q2, q3, q4.length, ⟨h.g.mut z2 z1, by rw [List.length_set]; exact h.len, fun l => if l = i then p :: as.dropLast else o l, fun l => ?_, fun l m a ha hb => h2 l m a (sub l a ha) (sub m a hb), fun l a ha => ?_, fun l t ht => ?_⟩⟩
  · dsimp only
    split
    · exact List.nodup_cons.mpr ⟨fun z => n1 (List.dropLast_subset _ z), n2.sublist (List.dropLast_sublist _)⟩
    · exact h1 l
  · obtain ⟨y1, y2, u, y3⟩ := h3 l a (sub l a ha)
    refine ⟨y1, y2, ?_⟩
    by_cases e : a = p
    · subst e; exact ⟨_, upd_same⟩
    · exact ⟨u, by rw [upd_ne e]; exact y3⟩
  · by_cases e : i = l
    · subst e
      have hl : i < ρ.length := (List.getElem?_eq_some_iff.mp hρ).1
      rw [List.getElem?_set_self hl] at ht
      cases ht
      have rd : ∀ {as : List Addr} {xss : List (List Da)} {H : Hp}, Rows T F H as xss → Rows T F H as.dropLast xss.dropLast := by
        intro as
        induction as with
        | nil => intro xss H h; cases xss with
          | nil => trivial
          | cons _ _ => exact h.elim
        | cons a as ih =>
          intro xss H h
          cases xss with
          | nil => exact h.elim
          | cons x xss =>
            cases as with
            | nil => cases xss with
              | nil => trivial
              | cons _ _ => exact h.2.elim
            | cons b bs => cases xss with
              | nil => exact h.2.elim
              | cons y ys => exact ⟨h.1, ih h.2⟩
      refine ⟨p, as.dropLast, by simp only [if_true], q2, by rw [upd_same, List.map_dropLast], rd (Rows.mono (Ex.refl F) (fun a ha => upd_ne fun z => n1 (z ▸ ha)) q4)⟩
    · rw [List.getElem?_set_ne e] at ht
      simp only [if_neg (Ne.symm e)]
      refine (h4 l t ht).mono (Ex.refl F) fun a ha => ?_
      have : a ≠ p := fun z => e (h2 i l p hp (z ▸ ha))
      rw [upd_ne this]
end
end G6

namespace G6
open PySem PySem.Spec PyProof.Rows L2
section
variable {T : Tx} {W : WX} {F0 H0 F H : Hp} {σ : St} {ρ : Rho}
theorem run_dat {Pd : Rs Da → Prop} {full : Bool} {f : Sem1} {Q : VK} (ok : EnvOk T F0 H0 F H σ ρ) (hp : Pd (dat (stf full f ρ))) (hno : ¬ Pd .no) (hex : ∀ c, Pd (.ex c) → PEx T W σ H c)
    (q : ∀ d v F' H', Grow F H F' H' → Rep T F' v d → Pd (.ok d) → Q v H') : tD T W f σ H Q := by
  refine run_st (P := fun r => Pd (dat r)) ok hp hno hex fun s v F' H' g r hq => ?_
  cases hv : s.view with
  | none => simp only [dat, hv] at hq; exact (hno hq).elim
  | some d =>
    simp only [dat, hv] at hq
    obtain ⟨F2, g2, r2⟩ := r.see g hv
    exact q d v F2 H' g2 r2 hq
theorem run_v {f : Sem1} {Q : VK} {d : Da} (ok : EnvOk T F0 H0 F H σ ρ) (hf : dat (f ρ) = .ok d) (q : ∀ v F' H', Ex H H' → Rep T F' v d → Q v H') : tD T W f σ H Q := by
  refine ⟨H, ρ, Ex.refl H, ok.view, ?_⟩
  cases hs : f ρ with
  | no => rw [hs] at hf; cases hf
  | ex c => rw [hs] at hf; cases hf
  | ok s =>
    rw [hs] at hf
    cases hv : s.view with
    | none => simp only [dat, hv] at hf; cases hf
    | some d' =>
      simp only [dat, hv] at hf
      cases hf
      intro v F' H' g r
      obtain ⟨F2, g2, r2⟩ := r.see g hv
      exact q v F2 H' g2.h r2
end
/-! xs.append(e) -/
def sApp (i : Nat) (full : Bool) (f : Sem1) : SemS := fun ρ => match ρ[i]? with
  | some (.ow xs) => if xs.length ≤ 1000000 then (match dat (stf full f ρ) with
    | .ok d => .nx (ρ.set i (.ow (xs ++ [d])))
    | .ex c => .ex c ρ
    | .no => .no) else .no
  | _ => .no
/-! xs.extend(e) -/
def sExt (i : Nat) (full : Bool) (f : Sem1) : SemS := fun ρ => match ρ[i]? with
  | some (.ow xs) => (match dat (stf full f ρ) with
    | .ok (.lst ys) => if xs.length + ys.length ≤ 1000000 then .nx (ρ.set i (.ow (xs ++ ys))) else .no
    | .ex c => .ex c ρ
    | _ => .no)
  | _ => .no
/-! xs[e1] = e -/
def sPutI (i : Nat) (full : Bool) (f f1 : Sem1) : SemS := fun ρ => match dat (stf full f ρ) with
  | .ok d => (match ρ[i]?, dat (f1 ρ) with
    | some (.ow xs), .ok (.int k) => (match ixN xs.length k with
      | some j => .nx (ρ.set i (.ow (xs.set j d)))
      | none => .no)
    | _, _ => .no)
  | .ex c => .ex c ρ
  | .no => .no
/-! xs[e1][e2] = e -/
def put2 (xss : List (List Da)) (k1 k2 : Int) (d : Da) : Option (List (List Da)) := match ixN xss.length k1 with
  | none => none
  | some j1 => (match xss[j1]? with
    | none => none
    | some xs => (match ixN xs.length k2 with
      | none => none
      | some j2 => some (xss.set j1 (xs.set j2 d))))
def sPutII (i : Nat) (full : Bool) (f f1 f2 : Sem1) : SemS := fun ρ => match dat (stf full f ρ) with
  | .ok d => (match ρ[i]?, dat (f1 ρ), dat (f2 ρ) with
    | some (.ow2 xss), .ok (.int k1), .ok (.int k2) => (match put2 xss k1 k2 d with
      | some yss => .nx (ρ.set i (.ow2 yss))
      | none => .no)
    | _, _, _ => .no)
  | .ex c => .ex c ρ
  | .no => .no
/-! xs[e1].append(e) -/
def app2 (xss : List (List Da)) (k1 : Int) (d : Da) : Option (List (List Da)) := match ixN xss.length k1 with
  | none => none
  | some j1 => (match xss[j1]? with
    | none => none
    | some xs => if xs.length ≤ 1000000 then some (xss.set j1 (xs ++ [d])) else none)
def sAppI (i : Nat) (f1 f : Sem1) : SemS := fun ρ => match ρ[i]?, dat (f1 ρ), dat (f ρ) with
  | some (.ow2 xss), .ok (.int k1), .ok (.int n) => (match app2 xss k1 (.int n) with
    | some yss => .nx (ρ.set i (.ow2 yss))
    | none => .no)
  | _, _, _ => .no
/-! xs.append(row) -/
def sMove (i j : Nat) : SemS := fun ρ => if i = j then .no else match ρ[i]?, ρ[j]? with
  | some s, some (.ow xs) => (match as2 s with
    | some xss => if xss.length ≤ 1000000 then .nx ((ρ.set i (.ow2 (xss ++ [xs]))).set j .dead) else .no
    | none => .no)
  | _, _ => .no
/-! xs.pop() -/
def sPop (i : Nat) : SemS := fun ρ => match ρ[i]? with
  | some (.ow2 (x :: xss)) => .nx (ρ.set i (.ow2 (x :: xss).dropLast))
  | _ => .no
/-! row = xs[e1]; row[e2] = e -/
def sAlias (i l : Nat) (f1 f2 : Sem1) (f : Sem1) : SemS := fun ρ => match ρ[i]?, dat (f1 ρ), dat (f2 (ρ.set l .dead)), dat (f (ρ.set l .dead)) with
  | some (.ow2 xss), .ok (.int k1), .ok (.int k2), .ok (.int n) => if i = l ∨ ¬ l < ρ.length then .no else (match put2 xss k1 k2 (.int n) with
    | some yss => .nx ((ρ.set i (.ow2 yss)).set l .dead)
    | none => .no)
  | _, _, _, _ => .no
section
variable {X : Cx} {T : Tx} {W : WX} {f f1 f2 : Sem1} {i j l : Nat} {full : Bool} {st st2 : Stmt}
theorem tyl {K : PySem.W.Frag} {H : Hp} {p : Addr} {xs : List V} (h : H p = some (.lst xs)) : tyV K "list" (.ref p) H := Or.inl ⟨rfl, xs, SqL.of h⟩
theorem lt_size {n : Nat} (h : n ≤ 1000000) : n < sizeLine := Nat.lt_of_le_of_lt h (by decide)
theorem s_app (h : PS X st (tDrop (tBM X.K "list" rAppend (tVar i) (tCons (tD T W f) tNil)))) : PS X st (tS T W (sApp i full f)) :=
  ps_imp h fun D σ H ⟨F0, H0, F, ρ, ok, hp⟩ => by
    unfold sApp at hp
    cases hr : ρ[i]? with
    | none => rw [hr] at hp; exact hp.elim
    | some s => cases s with
      | ow xs =>
        rw [hr] at hp
        dsimp only at hp
        split at hp
        · rename_i hz
          obtain ⟨p, vs, e1, e2, e3, e4⟩ := ok.mutO hr
          refine ⟨.ref p, e1, tyl e2, ?_⟩
          refine run_dat (Pd := fun r => PostS T W D F0 H0 F (match r with | .ok d => .nx (ρ.set i (.ow (xs ++ [d]))) | .ex c => .ex c ρ | .no => .no)) ok hp (fun z => z) (fun c z => post_ex ok z) fun d v F' H' g r hq => ?_
          obtain ⟨p', vs', a1, a2, a3, a4⟩ := (ok.ext g).mutO hr
          rw [e1] at a1; cases a1
          exact ⟨p, vs', v, rfl, rfl, a2, lt_size (by rw [a3.length]; exact hz), hq σ F' _ g.f (a4 _ _ (a3.append (.cons r .nil)))⟩
        · exact hp.elim
      | _ => rw [hr] at hp; exact hp.elim
theorem s_ext (h : PS X st (tDrop (tBM X.K "list" rExtend (tVar i) (tCons (tD T W f) tNil)))) : PS X st (tS T W (sExt i full f)) :=
  ps_imp h fun D σ H ⟨F0, H0, F, ρ, ok, hp⟩ => by
    unfold sExt at hp
    cases hr : ρ[i]? with
    | none => rw [hr] at hp; exact hp.elim
    | some s => cases s with
      | ow xs =>
        rw [hr] at hp
        dsimp only at hp
        obtain ⟨p, vs, e1, e2, e3, e4⟩ := ok.mutO hr
        refine ⟨.ref p, e1, tyl e2, ?_⟩
        refine run_dat (Pd := fun r => PostS T W D F0 H0 F (match r with | .ok (.lst ys) => (if xs.length + ys.length ≤ 1000000 then .nx (ρ.set i (.ow (xs ++ ys))) else .no) | .ex c => .ex c ρ | _ => .no)) ok hp (fun z => z) (fun c z => post_ex ok z) fun d v F' H' g r hq => ?_
        obtain ⟨p', vs', a1, a2, a3, a4⟩ := (ok.ext g).mutO hr
        rw [e1] at a1; cases a1
        cases r with
        | lst h1 r1 =>
          dsimp only at hq
          split at hq
          · rename_i hz
            exact ⟨p, _, vs', _, rfl, rfl, a2, g.s _ _ h1, by rw [a3.length, r1.length]; exact big_size hz, hq σ F' _ g.f (a4 _ _ (a3.append r1))⟩
          · exact hq.elim
        | _ => exact hq.elim
      | _ => rw [hr] at hp; exact hp.elim
theorem s_putI (h : PS X st (tAsg (tD T W f) (gSub (tVar i) (tD T W f1) rSetL))) : PS X st (tS T W (sPutI i full f f1)) :=
  ps_imp h fun D σ H ⟨F0, H0, F, ρ, ok, hp⟩ => by
    refine run_dat (Pd := fun r => PostS T W D F0 H0 F (match r with
      | .ok d => (match ρ[i]?, dat (f1 ρ) with
        | some (.ow xs), .ok (.int k) => (match ixN xs.length k with
          | some j => .nx (ρ.set i (.ow (xs.set j d)))
          | none => .no)
        | _, _ => .no)
      | .ex c => .ex c ρ
      | .no => .no)) ok hp (fun z => z) (fun c z => post_ex ok z) fun d v F' H' g r hq => ?_
    have ok' := ok.ext g
    dsimp only at hq
    split at hq
    · rename_i xs k hr hk
      cases hx : ixN xs.length k with
      | none => rw [hx] at hq; exact hq.elim
      | some j =>
        rw [hx] at hq
        obtain ⟨p0, vs0, b1, b2, b3, b4⟩ := ok'.mutO hr
        refine ⟨.ref p0, b1, ?_⟩
        refine run_v ok' hk fun u F2 H2 e2 r2 => ?_
        cases r2
        have ok2 := ok'.grow e2
        obtain ⟨p, vs, a1, a2, a3, a4⟩ := ok2.mutO hr
        rw [b1] at a1; cases a1
        exact ⟨p0, vs, k, j, rfl, rfl, a2, by rw [a3.length]; exact hx, hq σ F' _ g.f (a4 _ _ (a3.set r j))⟩
    · exact hq.elim
theorem atI_refs {as : List Addr} {k : Int} {j : Nat} (h : ixN as.length k = some j) : ∃ a, as[j]? = some a ∧ atI (as.map V.ref) k = some (.ref a) := by
  have hj : j < as.length := (ixN_seq h).2.1
  refine ⟨as[j], List.getElem?_eq_getElem hj, ?_⟩
  unfold atI
  rw [List.length_map, h]
  show (as.map V.ref)[j]? = _
  rw [List.getElem?_map, List.getElem?_eq_getElem hj]
  rfl
theorem s_putII (h : PS X st (tAsg (tD T W f) (gSub (tOp (rIxL X.K) (tVar i) (tD T W f1)) (tD T W f2) rSetL))) : PS X st (tS T W (sPutII i full f f1 f2)) :=
  ps_imp h fun D σ H ⟨F0, H0, F, ρ, ok, hp⟩ => by
    refine run_dat (Pd := fun r => PostS T W D F0 H0 F (match r with
      | .ok d => (match ρ[i]?, dat (f1 ρ), dat (f2 ρ) with
        | some (.ow2 xss), .ok (.int k1), .ok (.int k2) => (match put2 xss k1 k2 d with
          | some yss => .nx (ρ.set i (.ow2 yss))
          | none => .no)
        | _, _, _ => .no)
      | .ex c => .ex c ρ
      | .no => .no)) ok hp (fun z => z) (fun c z => post_ex ok z) fun d v F' H' g r hq => ?_
    have ok' := ok.ext g
    dsimp only at hq
    split at hq
    · rename_i xss k1 k2 hr hk1 hk2
      unfold put2 at hq
      cases hx : ixN xss.length k1 with
      | none => rw [hx] at hq; exact hq.elim
      | some j1 =>
        rw [hx] at hq
        dsimp only at hq
        cases hxs : xss[j1]? with
        | none => rw [hxs] at hq; exact hq.elim
        | some xs =>
          rw [hxs] at hq
          dsimp only at hq
          cases hx2 : ixN xs.length k2 with
          | none => rw [hx2] at hq; exact hq.elim
          | some j2 =>
            rw [hx2] at hq
            dsimp only at hq
            obtain ⟨p0, as0, b1, b2, b3, b4⟩ := ok'.mut2 hr
            refine ⟨.ref p0, b1, ?_⟩
            refine run_v ok' hk1 fun u F2 H2 e2 r2 => ?_
            cases r2
            have ok2 := ok'.grow e2
            have hx0 := hx
            rw [← b3] at hx0
            obtain ⟨a, ha1, ha2⟩ := atI_refs hx0
            refine ⟨p0, as0.map V.ref, k1, .ref a, rfl, rfl, SqL.of (e2 _ _ b2), ha2, ?_⟩
            refine run_v ok2 hk2 fun u F3 H3 e3 r3 => ?_
            cases r3
            have ok3 := ok2.grow e3
            obtain ⟨p, as, a1, a2, a3, a4⟩ := ok3.mut2 hr
            rw [b1] at a1; cases a1
            have hH : H3 p0 = some (.lst (as0.map V.ref)) := e3 _ _ (e2 _ _ b2)
            rw [hH] at a2
            have has : as0 = as := by
              have := HO.lst.inj (Option.some.inj a2)
              exact List.map_inj_right (fun x y e => V.ref.inj e) |>.mp this
            subst has
            obtain ⟨vs, xs', c1, c2, c3, c4⟩ := a4 j1 a ha1
            rw [hxs] at c1; cases c1
            exact ⟨a, vs, k2, j2, rfl, rfl, c2, by rw [c3.length]; exact hx2, hq σ F' _ g.f (c4 _ _ (c3.set r j2))⟩
    · exact hq.elim
theorem s_appI (h : PS X st (tDrop (tBM X.K "list" rAppend (tOp (rIxL X.K) (tVar i) (tD T W f1)) (tCons (tD T W f) tNil)))) : PS X st (tS T W (sAppI i f1 f)) :=
  ps_imp h fun D σ H ⟨F0, H0, F, ρ, ok, hp⟩ => by
    unfold sAppI at hp
    split at hp
    · rename_i xss k1 n hr hk1 hk2
      unfold app2 at hp
      cases hx : ixN xss.length k1 with
      | none => rw [hx] at hp; exact hp.elim
      | some j1 =>
        rw [hx] at hp
        dsimp only at hp
        cases hxs : xss[j1]? with
        | none => rw [hxs] at hp; exact hp.elim
        | some xs =>
          rw [hxs] at hp
          dsimp only at hp
          by_cases hz : xs.length ≤ 1000000
          · rw [if_pos hz] at hp
            dsimp only at hp
            obtain ⟨p0, as0, b1, b2, b3, b4⟩ := ok.mut2 hr
            refine ⟨.ref p0, b1, ?_⟩
            refine run_v ok hk1 fun u F2 H2 e2 r2 => ?_
            cases r2
            have ok2 := ok.grow e2
            have hx0 := hx
            rw [← b3] at hx0
            obtain ⟨a, ha1, ha2⟩ := atI_refs hx0
            obtain ⟨vs0, xs0, d1, d2, d3, _⟩ := b4 j1 a ha1
            refine ⟨p0, as0.map V.ref, k1, .ref a, rfl, rfl, SqL.of (e2 _ _ b2), ha2, tyl (e2 _ _ d2), ?_⟩
            refine run_v ok2 hk2 fun u F3 H3 e3 r3 => ?_
            cases r3
            have ok3 := ok2.grow e3
            obtain ⟨p, as, a1, a2, a3, a4⟩ := ok3.mut2 hr
            rw [b1] at a1; cases a1
            have hH : H3 p0 = some (.lst (as0.map V.ref)) := e3 _ _ (e2 _ _ b2)
            rw [hH] at a2
            have has : as0 = as := by
              have := HO.lst.inj (Option.some.inj a2)
              exact List.map_inj_right (fun x y e => V.ref.inj e) |>.mp this
            subst has
            obtain ⟨vs, xs', c1, c2, c3, c4⟩ := a4 j1 a ha1
            rw [hxs] at c1; cases c1
            exact ⟨a, vs, .int n, rfl, rfl, c2, lt_size (by rw [c3.length]; exact hz), hp σ F _ (Ex.refl F) (c4 _ _ (c3.append (.cons (.int n) .nil)))⟩
          · rw [if_neg hz] at hp; exact hp.elim
    · exact hp.elim
theorem s_move (h : PS X st (tDrop (tBM X.K "list" rAppend (tVar i) (tCons (tVar j) tNil)))) : PS X st (tS T W (sMove i j)) :=
  ps_imp h fun D σ H ⟨F0, H0, F, ρ, ok, hp⟩ => by
    unfold sMove at hp
    split at hp
    · exact hp.elim
    · rename_i hij
      split at hp
      · rename_i s xs hi hj
        cases hs : as2 s with
        | none => rw [hs] at hp; exact hp.elim
        | some xss =>
          rw [hs] at hp
          dsimp only at hp
          by_cases hz : xss.length ≤ 1000000
          · rw [if_pos hz] at hp
            obtain ⟨p, as, q, a1, a2, a3, a4, a5⟩ := ok.move hij hi hs hj
            exact ⟨.ref p, a1, tyl a2, .ref q, a4, p, _, _, rfl, rfl, a2, lt_size (by rw [List.length_map, a3]; exact hz), hp σ F _ (Ex.refl F) a5⟩
          · rw [if_neg hz] at hp; exact hp.elim
      · exact hp.elim
theorem s_pop (h : PS X st (tDrop (tBM0 X.K "list" rPop (tVar i)))) : PS X st (tS T W (sPop i)) :=
  ps_imp h fun D σ H ⟨F0, H0, F, ρ, ok, hp⟩ => by
    unfold sPop at hp
    split at hp
    · rename_i x xss hr
      obtain ⟨p, as, a1, a2, a3, a4⟩ := ok.pop2 hr
      have hl : 0 < as.length := by rw [a3]; simp
      refine ⟨.ref p, a1, tyl a2, p, as.map V.ref, _, rfl, rfl, a2, List.getElem?_eq_getElem (by rw [List.length_map]; omega), hp σ F _ (Ex.refl F) a4⟩
    · exact hp.elim
def tSet1 (l : Nat) (te : TE) : TS := fun D σ H => te σ H fun x H1 => D.nx (σ.set l (some x)) H1
theorem ss_alias (h1 : PS X st (tSet1 l (tOp (rIxL X.K) (tVar i) (tD T W f1)))) (h2 : PS X st2 (tAsg (tD T W f) (gSub (tVar l) (tD T W f2) rSetL))) : PSs X [st, st2] (tS T W (sAlias i l f1 f2 f)) :=
  pss_imp (pss_cons h1 (pss_one h2)) fun D σ H ⟨F0, H0, F, ρ, ok, hp⟩ => by
    unfold sAlias at hp
    split at hp
    · rename_i xss k1 k2 n hr hk1 hk2 hk
      by_cases hil0 : i = l ∨ ¬ l < ρ.length
      · rw [if_pos hil0] at hp; exact hp.elim
      · rw [if_neg hil0] at hp
        have hil : ¬ i = l := fun z => hil0 (.inl z)
        have hll : l < σ.length := by rw [ok.len]; exact Decidable.not_not.mp fun z => hil0 (.inr z)
        unfold put2 at hp
        cases hx : ixN xss.length k1 with
        | none => rw [hx] at hp; exact hp.elim
        | some j1 =>
          rw [hx] at hp
          dsimp only at hp
          cases hxs : xss[j1]? with
          | none => rw [hxs] at hp; exact hp.elim
          | some xs =>
            rw [hxs] at hp
            dsimp only at hp
            cases hx2 : ixN xs.length k2 with
            | none => rw [hx2] at hp; exact hp.elim
            | some j2 =>
              rw [hx2] at hp
              dsimp only at hp
              obtain ⟨p0, as0, b1, b2, b3, b4⟩ := ok.mut2 hr
              refine ⟨.ref p0, b1, ?_⟩
              refine run_v ok hk1 fun u F2 H2 e2 r2 => ?_
              cases r2
              have ok2 := ok.grow e2
              have hx0 := hx
              rw [← b3] at hx0
              obtain ⟨a, ha1, ha2⟩ := atI_refs hx0
              refine ⟨p0, as0.map V.ref, k1, .ref a, rfl, rfl, SqL.of (e2 _ _ b2), ha2, ?_⟩
              have ok3 := ok2.kill (i := l) (v := .ref a)
              refine run_v ok3 hk fun u F4 H4 e4 r4 => ?_
              cases r4
              have ok4 := ok3.grow e4
              have hr' : (ρ.set l .dead)[i]? = some (.ow2 xss) := by rw [List.getElem?_set_ne (Ne.symm hil)]; exact hr
              refine ⟨.ref a, by rw [List.getElem?_set_self hll], ?_⟩
              refine run_v ok4 hk2 fun u F5 H5 e5 r5 => ?_
              cases r5
              have ok5 := ok4.grow e5
              obtain ⟨p, as, a1, a2, a3, a4⟩ := ok5.mut2 hr'
              rw [List.getElem?_set_ne (Ne.symm hil), b1] at a1; cases a1
              have hH : H5 p0 = some (.lst (as0.map V.ref)) := e5 _ _ (e4 _ _ (e2 _ _ b2))
              rw [hH] at a2
              have has : as0 = as := by
                have := HO.lst.inj (Option.some.inj a2)
                exact List.map_inj_right (fun x y e => V.ref.inj e) |>.mp this
              subst has
              obtain ⟨vs, xs', c1, c2, c3, c4⟩ := a4 j1 a ha1
              rw [hxs] at c1; cases c1
              have c5 := c4 _ _ (c3.set (.int n) j2)
              rw [List.set_comm _ _ (Ne.symm hil)] at c5
              exact ⟨a, vs, k2, j2, rfl, rfl, c2, by rw [c3.length]; exact hx2, hp _ F _ (Ex.refl F) c5⟩
    · exact hp.elim
end
end G6

namespace G6
open PySem PySem.Spec PyProof.Rows L2
/-! ### list(range(a, b)) -/
def rngV (lo : Int) (n : Nat) : List V := (List.range n).map fun (k : Nat) => V.int (lo + (k : Int))
def rListR : List V → Hp → VK → Prop := fun xs H Q => ∃ (p : Addr) (lo hi : Int), xs = [.ref p] ∧ H p = some (.rng lo hi) ∧ (0 ≤ lo ∧ lo ≤ 1000000 ∧ -1000000 ≤ hi ∧ hi ≤ 1000000) ∧ ∀ l, H l = none → Q (.ref l) (upd H l (.lst (rngV lo (hi - lo).toNat)))
theorem vals_of_get : ∀ {vs : List V} {us : List Value}, vs.length = us.length → (∀ (j : Nat) (u : Value), us[j]? = some u → ∃ v, vs[j]? = some v ∧ RelV v u) → Vals vs us
  | [], [], _, _ => .nil
  | v :: vs, u :: us, hl, h => by
    obtain ⟨v', e1, e2⟩ := h 0 u rfl
    have e3 : v = v' := by simpa using e1
    subst e3
    exact .cons e2 (vals_of_get (by simpa using hl) fun j w hj => by
      obtain ⟨z, z1, z2⟩ := h (j + 1) w (by simpa using hj)
      exact ⟨z, by simpa using z1, z2⟩)
  | [], _ :: _, hl, _ => by simp at hl
  | _ :: _, [], hl, _ => by simp at hl
theorem cr_listR {X : Cx} (hc : X.calm = true) : CallR X (.type "list") rListR := by
  intro pins s σ H xs us Q I r h
  obtain ⟨p, lo, hi, rfl, hp, ⟨b1, b2, b3, b4⟩, q⟩ := h
  rw [Vals.ref1 r]
  obtain ⟨t, u, v, ho⟩ := (show ObjOk X.prog X.w H s.heap p (.rng lo hi) from I.hok p _ hp)
  have hsz : Builtin.Range.rangeSize lo hi 1 = ((hi - lo).toNat : Int) := by rw [rangeSize_one]; split <;> omega
  refine call_list_range (I.ok.hd hc) ho (small_one (by omega) (by omega) (by omega) (by omega)) hsz (by
    have : (2:Nat) ^ 24 = 16777216 := by decide
    omega) fun h' tk acc' c' hk hS ⟨ha, hb⟩ => ?_
  have hl : (rngV lo (hi - lo).toNat).length = acc'.toList.length := by
    unfold rngV
    rw [List.length_map, List.length_range, Array.length_toList, ha]
  refine ⟨.ref s.heap.objs.size, upd H s.heap.objs.size (.lst (rngV lo (hi - lo).toNat)), I.laid (t' := tk) hk (Nat.le_refl _) (show ObjOk X.prog X.w _ h' _ (.lst (rngV lo (hi - lo).toNat)) from ⟨?_, acc'.toList, c', ?_, by simpa using hS⟩), rfl, q _ (I.hok.fresh (Nat.le_refl _))⟩
  · unfold rngV
    rw [List.length_map, List.length_range]
    exact big_size (n := (hi - lo).toNat) (by omega)
  · refine vals_of_get hl fun j w hj => ?_
    have hj2 : acc'[j]? = some w := by simpa using hj
    obtain ⟨tt, e⟩ := hb j w hj2
    have hjl : j < (hi - lo).toNat := by
      have := (List.getElem?_eq_some_iff.mp hj).1
      rw [Array.length_toList, ha] at this
      exact this
    refine ⟨.int (lo + j), ?_, ⟨tt, by rw [e, Int.mul_one]⟩⟩
    unfold rngV
    rw [List.getElem?_map, List.getElem?_range hjl]
    rfl
def eListR (fs : Rho → Rs (List Da)) : Sem1 := fun ρ => (fs ρ).bind fun ds => match ds with
  | [.int a, .int b] => if 0 ≤ a ∧ a ≤ 1000000 ∧ -1000000 ≤ b ∧ b ≤ 1000000 then .ok (.ow (rngD a (b - a).toNat)) else .no
  | _ => .no
theorem RepAll.rng {T : Tx} {H : Hp} (lo : Int) (n : Nat) : RepAll T H (rngV lo n) (rngD lo n) := by
  unfold rngV rngD
  generalize List.range n = l
  induction l with
  | nil => exact .nil
  | cons k l ih => exact .cons (.int _) ih
section
variable {X : Cx} {T : Tx} {W : WX} {fs : Rho → Rs (List Da)} {a b : Expr} {p p2 pos pos2 : Pos}
theorem e_listR (hc : X.calm = true) (hg : Gl X "list") (hm : X.mg "list" = none) (hg2 : Gl X "range") (hm2 : X.mg "range" = none) (ha : PA X [a, b] (tA T W fs))
    (hb1 : bootBuiltins "list" = some (.type "list") := by decide +kernel) (hb2 : bootBuiltins "range" = some (.type "range") := by decide +kernel)
    (he2 : starEach [a, b] X.env = (false, eval a X.env) :: starEach [b] X.env := by rfl) (hpl2 : (backTo pos2 (starEach [b] X.env)).any (·.1) = false := by rfl)
    (he : starEach [.Call (.Name "range" p2) [a, b] [] pos2] X.env = (false, eval (.Call (.Name "range" p2) [a, b] [] pos2) X.env) :: starEach [] X.env := by rfl) (hpl : (backTo pos (starEach [] X.env)).any (·.1) = false := by rfl) :
    PE X (.Call (.Name "list" p) [.Call (.Name "range" p2) [a, b] [] pos2] [] pos) (tD T W (eListR fs)) :=
  pe_imp (pe_callTy (cr_listR hc) hg hm hb1 (pa_cons (pe_callTy cr_range2 hg2 hm2 hb2 ha (by decide) (by decide) he2 hpl2) pa_nil he) (by decide) (by decide) he hpl) fun σ H Q ⟨F, ρ, e, vw, hp⟩ => by
    refine bind_a e vw hp fun ds vs F1 H1 g1 r1 hp1 => ?_
    split at hp1
    · rename_i x y
      split at hp1
      · rename_i hz
        cases r1 with
        | cons q1 q2 => cases q1; cases q2 with
          | cons q2 q3 =>
            cases q2; cases q3
            refine ⟨x, y, rfl, fun q hq => ?_⟩
            refine ⟨q, x, y, rfl, upd_same, hz, fun l hl => ?_⟩
            have g2 : Grow F1 H1 F1 (upd H1 q (.rng x y)) := Grow.own g1.s hq
            exact new_ow g2.s (RepAll.rng x _) (Post.mono g2 hp1) hl
      · exact hp1.elim
    · exact hp1.elim
/-! ### abs, is None -/
def kAbs : List Da → Option Sl
  | [.int i] => some (.sh (.int (if i < 0 then -i else i)))
  | _ => none
theorem rd_abs : RDA T (fun xs H Q => ∃ i, xs = [.int i] ∧ Q (.int (if i < 0 then -i else i)) H) kAbs := fun F H xs ds s Q ex r hk q => by
  cases r with
  | nil => cases hk
  | cons r1 r2 =>
    cases r1 with
    | int i => cases r2 with
      | nil => cases hk; exact ⟨i, rfl, q _ F H (Grow.refl ex) (.int _)⟩
      | cons _ _ => cases hk
    | _ => cases r2 <;> cases hk
def isNon : Da → Bool
  | .non => true
  | _ => false
def kIsN (d e : Da) : Option Sl := match e with
  | .non => some (.sh (.bl (isNon d)))
  | _ => none
theorem rd_isN : RD2 T (fun x y H Q => y = .non ∧ Q (.bl (decide (x = .non))) H) kIsN := fun F H x y d e s Q ex rx ry hk q => by
  cases ry with
  | non =>
    cases hk
    refine ⟨rfl, ?_⟩
    have : decide (x = V.non) = isNon d := by cases rx <;> rfl
    rw [this]
    exact q _ F H (Grow.refl ex) (.bl _)
  | _ => cases hk
end
end G6

namespace G6
open PySem PySem.Spec PyProof.Rows L2
/-! ### the two classes -/
def spInit1 (C : Addr) : Sp := fun vs H Q _ => ∃ (p dx : Addr) (v : V), vs = [.ref p, v] ∧ H p = some (.ins C dx []) ∧ ∀ H' : Hp, H' p = some (.ins C dx [("total", v)]) → (∀ b, b ≠ p → H' b = H b) → Q .non H'
def spInit2 (C : Addr) : Sp := fun vs H Q _ => ∃ (p dx : Addr) (v u : V), vs = [.ref p, v, u] ∧ H p = some (.ins C dx []) ∧ ∀ H' : Hp, H' p = some (.ins C dx [("one", v), ("other", u)]) → (∀ b, b ≠ p → H' b = H b) → Q .non H'
theorem putF1 {v : V} : putF "total" v [] = ([(("total" : Str), v)] : List (Str × V)) := rfl
theorem putF2 {v u : V} : putF "other" u (putF "one" v []) = ([(("one" : Str), v), (("other" : Str), u)] : List (Str × V)) := by
  show (if ("one" : Str) = "other" then [(("one" : Str), u)] else (("one" : Str), v) :: putF "other" u []) = ([(("one" : Str), v), (("other" : Str), u)] : List (Str × V))
  rw [if_neg (by decide +kernel)]
  rfl
theorem make_grow {F H H' : Hp} {x dx : Addr} {o : HO} (e : Ex F H) (hx : H x = none) (hdx : H dx = none) (h1 : H' x = some o) (h2 : ∀ b, b ≠ x → H' b = (upd H dx (.own x)) b) : Grow F H (upd F x o) H' := by
  have k : ∀ a u, H a = some u → H' a = some u := fun a u ha => by
    have ne : a ≠ x := ne_of_none ha hx
    have ne2 : a ≠ dx := ne_of_none ha hdx
    rw [h2 a ne, upd_ne ne2]
    exact ha
  refine ⟨Ex.new (e.back hx), k, fun a u q => ?_, fun a u q => ?_⟩
  · by_cases z : a = x
    · subst z; rw [upd_same] at q; cases q; exact h1
    · rw [upd_ne z] at q; exact k a u (e a u q)
  · by_cases z : a = x
    · subst z; exact .inr hx
    · rw [upd_ne z] at q; exact .inl q
def eEven (fs : Rho → Rs (List Da)) : Sem1 := fun ρ => (fs ρ).bind fun ds => match ds with
  | [d] => .ok (.sh (.even d))
  | _ => .no
def eUnl (fs : Rho → Rs (List Da)) : Sem1 := fun ρ => (fs ρ).bind fun ds => match ds with
  | [d, e] => .ok (.sh (.unl d e))
  | _ => .no
section
variable {X : Cx} {T : Tx} {W : WX} {f : Sem1} {fs : Rho → Rs (List Da)} {p p2 pos apos : Pos} {fI : Addr} {fd : FuncData} {e1 e2 o e : Expr} {x : Str}
theorem e_even (M : Mk X.K T.ce fI) (G : FnOk X.prog X.w X.K X.mg X.base CX0 1 fI fd ["self", "total"] (spInit1 T.ce)) (hr : Room 2 X.A) (hg : Gl X x) (hm : X.mg x = some (.ref T.ce)) (hb : Binds X.K fd ["self", "total"] []) (ha : PA X [e1] (tA T W fs))
    (hdb : (x == ("__debug__" : Str)) = false := by decide) (he : starEach [e1] X.env = (false, eval e1 X.env) :: starEach [] X.env := by rfl) (hpl : (backTo pos (starEach [] X.env)).any (·.1) = false := by rfl) :
    PE X (.Call (.Name x p) [e1] [] pos) (tD T W (eEven fs)) :=
  pe_imp (pe_make (E := fun _ _ _ => False) M G hr hg hm hb .nil pass0 ha hdb he hpl) fun σ H Q ⟨F, ρ, e, vw, hp⟩ => by
    refine bind_a e vw hp fun ds vs F1 H1 g1 r1 hp1 => ?_
    split at hp1
    · rename_i d
      cases r1 with
      | cons q1 q2 =>
        cases q2
        rename_i v
        intro x dx hx hdx hne
        refine ⟨x, dx, v, rfl, upd_same, fun H' h1 h2 => ⟨rfl, ?_⟩⟩
        have g := make_grow g1.s hx hdx h1 (fun b hb => by rw [h2 b hb, upd_ne hb])
        exact hp1 (.ref x) _ H' g (.even upd_same (q1.mono (Ex.new (g1.s.back hx))))
    · exact hp1.elim
theorem e_unl (M : Mk X.K T.cu fI) (G : FnOk X.prog X.w X.K X.mg X.base CX0 1 fI fd ["self", "one", "other"] (spInit2 T.cu)) (hr : Room 2 X.A) (hg : Gl X x) (hm : X.mg x = some (.ref T.cu)) (hb : Binds X.K fd ["self", "one", "other"] []) (ha : PA X [e1, e2] (tA T W fs))
    (hdb : (x == ("__debug__" : Str)) = false := by decide) (he : starEach [e1, e2] X.env = (false, eval e1 X.env) :: starEach [e2] X.env := by rfl) (hpl : (backTo pos (starEach [e2] X.env)).any (·.1) = false := by rfl) :
    PE X (.Call (.Name x p) [e1, e2] [] pos) (tD T W (eUnl fs)) :=
  pe_imp (pe_make (E := fun _ _ _ => False) M G hr hg hm hb .nil pass0 ha hdb he hpl) fun σ H Q ⟨F, ρ, e, vw, hp⟩ => by
    refine bind_a e vw hp fun ds vs F1 H1 g1 r1 hp1 => ?_
    split at hp1
    · rename_i d d2
      cases r1 with
      | cons q1 q2 => cases q2 with
        | cons q2 q3 =>
          cases q3
          rename_i v u
          intro x dx hx hdx hne
          refine ⟨x, dx, _, _, rfl, upd_same, fun H' h1 h2 => ⟨rfl, ?_⟩⟩
          have g := make_grow g1.s hx hdx h1 (fun b hb => by rw [h2 b hb, upd_ne hb])
          exact hp1 (.ref x) _ H' g (.unl upd_same (q1.mono (Ex.new (g1.s.back hx))) (q2.mono (Ex.new (g1.s.back hx))))
    · exact hp1.elim
/-! fields -/
def kTotal : Da → Option Sl
  | .even d => some (.sh d)
  | _ => none
def kOne : Da → Option Sl
  | .unl d _ => some (.sh d)
  | _ => none
def kOther : Da → Option Sl
  | .unl _ d => some (.sh d)
  | _ => none
theorem look1 {v : V} : List.lookup ("total" : Str) [(("total" : Str), v)] = some v := by simp [List.lookup]
theorem look2 {v u : V} : List.lookup ("one" : Str) [(("one" : Str), v), (("other" : Str), u)] = some v := by simp [List.lookup]
theorem look3 {v u : V} : List.lookup ("other" : Str) [(("one" : Str), v), (("other" : Str), u)] = some u := by
  have : (("other" : Str) == ("one" : Str)) = false := by decide +kernel
  simp [List.lookup, this]
theorem e_total (hK : T.K = X.K) (cl : Cls X.K T.ce) (na : NoAttr X.K T.ce "total") (ho : PE X o (tD T W f)) (hb : attributeBase o "total" X.env (eval o X.env) = eval o X.env := by rfl) : PE X (.Attribute o "total" pos) (tD T W (eUn kTotal f)) :=
  pe_imp (pe_fld ho hb) fun σ H Q ⟨F, ρ, e, vw, hp⟩ => by
    refine bind_d e vw hp fun d v F1 H1 g1 r1 hp1 => ?_
    cases r1 with
    | even h r => exact ⟨_, _, _, _, _, rfl, g1.s _ _ h, cl, na, look1, post_sh g1.s r hp1⟩
    | _ => exact hp1.elim
theorem e_one_ (hK : T.K = X.K) (cl : Cls X.K T.cu) (na : NoAttr X.K T.cu "one") (ho : PE X o (tD T W f)) (hb : attributeBase o "one" X.env (eval o X.env) = eval o X.env := by rfl) : PE X (.Attribute o "one" pos) (tD T W (eUn kOne f)) :=
  pe_imp (pe_fld ho hb) fun σ H Q ⟨F, ρ, e, vw, hp⟩ => by
    refine bind_d e vw hp fun d v F1 H1 g1 r1 hp1 => ?_
    cases r1 with
    | unl h r r2 => exact ⟨_, _, _, _, _, rfl, g1.s _ _ h, cl, na, look2, post_sh g1.s r hp1⟩
    | _ => exact hp1.elim
theorem e_other (hK : T.K = X.K) (cl : Cls X.K T.cu) (na : NoAttr X.K T.cu "other") (ho : PE X o (tD T W f)) (hb : attributeBase o "other" X.env (eval o X.env) = eval o X.env := by rfl) : PE X (.Attribute o "other" pos) (tD T W (eUn kOther f)) :=
  pe_imp (pe_fld ho hb) fun σ H Q ⟨F, ρ, e, vw, hp⟩ => by
    refine bind_d e vw hp fun d v F1 H1 g1 r1 hp1 => ?_
    cases r1 with
    | unl h r r2 => exact ⟨_, _, _, _, _, rfl, g1.s _ _ h, cl, na, look3, post_sh g1.s r2 hp1⟩
    | _ => exact hp1.elim
/-! isinstance(x, C), C an own class -/
structure IsC (K : PySem.W.Frag) (C : Addr) : Prop where
  cl : Cls K C
  ha : PySem.W.findIn K (.ref C) "__class__" = some (some (.builtin "object.__class__"))
  hn : PySem.W.specialIn K (.builtin "object.__class__") "__get__" = some (some (.builtin "getset_descriptor.__get__"))
  ht : PySem.W.takesIn K (.builtin "object.__class__") = some true
  hm : PySem.W.mroIn K C (.type "object") = some true
def kIsC (b1 b2 : Bool) : Da → Option Sl
  | .even _ => some (.sh (.bl b1))
  | .unl _ _ => some (.sh (.bl b2))
  | _ => none
theorem e_isC {C : Addr} {b1 b2 : Bool} (hK : T.K = X.K) (i1 : IsC X.K T.ce) (i2 : IsC X.K T.cu) (k1 : PySem.W.kitOne X.K (.ref T.ce) (.ref C) = some b1) (k2 : PySem.W.kitOne X.K (.ref T.cu) (.ref C) = some b2) (hg : Gl X "isinstance") (hm : X.mg "isinstance" = none) (ho : PE X o (tD T W f)) (hg2 : Gl X x) (hm2 : X.mg x = some (.ref C))
    (hd2 : (x == ("__debug__" : Str)) = false := by decide) (hb : bootBuiltins "isinstance" = some (.builtin "isinstance") := by decide +kernel)
    (hs1 : starEach [.Name x p2] X.env = (false, eval (.Name x p2) X.env) :: starEach [] X.env := by rfl)
    (he : starEach (o :: [.Name x p2]) X.env = (false, eval o X.env) :: starEach [.Name x p2] X.env := by rfl) (hpl : (backTo pos (starEach [.Name x p2] X.env)).any (·.1) = false := by rfl) :
    PE X (.Call (.Name "isinstance" p) [o, .Name x p2] [] pos) (tD T W (eUn (kIsC b1 b2) f)) :=
  pe_imp (pe_callB call_isi hg hm hb (pa_cons ho (pa_cons (pe_glob (v := .ref C) hg2 hm2 rfl hd2) pa_nil hs1) he) (by decide) (by decide) he hpl) fun σ H Q ⟨F, ρ, e, vw, hp⟩ => by
    refine bind_d e vw hp fun d v F1 H1 g1 r1 hp1 => ?_
    cases r1 with
    | even h r => exact ⟨_, .ref C, .ref T.ce, .ref C, b1, rfl, .own C, .base (.ins (g1.s _ _ h) i1.cl i1.ha i1.hn i1.ht i1.hm), k1, post_sh g1.s (.bl b1) hp1⟩
    | unl h r r2 => exact ⟨_, .ref C, .ref T.cu, .ref C, b2, rfl, .own C, .base (.ins (g1.s _ _ h) i2.cl i2.ha i2.hn i2.ht i2.hm), k2, post_sh g1.s (.bl b2) hp1⟩
    | _ => exact hp1.elim
/-! x.shows(e) -/
def okO (r : Rs Sl) : Rs Sl := match r with
  | .ok s => .ok s
  | _ => .no
def eShows (f : Sem1) (fs : Rho → Rs (List Da)) (m1 m2 : List Da → Rs Sl) : Sem1 := fun ρ => (dat (f ρ)).bind fun d => match d with
  | .even t => (fs ρ).bind fun ds => okO (m1 (.even t :: ds))
  | .unl a b => (fs ρ).bind fun ds => okO (m2 (.unl a b :: ds))
  | _ => .no
theorem no_shows1 {v : V} : List.lookup ("shows" : Str) [(("total" : Str), v)] = none := by
  have : (("shows" : Str) == ("total" : Str)) = false := by decide +kernel
  simp [List.lookup, this]
theorem no_shows2 {v u : V} : List.lookup ("shows" : Str) [(("one" : Str), v), (("other" : Str), u)] = none := by
  have : (("shows" : Str) == ("one" : Str)) = false := by decide +kernel
  have h2 : (("shows" : Str) == ("other" : Str)) = false := by decide +kernel
  simp [List.lookup, this, h2]
theorem eq_d {σ : St} {F H : Hp} {ρ : Rho} {d : Da} {Q' : VK} (e : Ex F H) (vw : View T F σ ρ) (hd : dat (f ρ) = .ok d) (q : ∀ v F' H', Grow F H F' H' → Rep T F' v d → Q' v H') : tD T W f σ H Q' := by
  refine ⟨F, ρ, e, vw, ?_⟩
  cases hs : f ρ with
  | no => rw [hs] at hd; cases hd
  | ex c => rw [hs] at hd; cases hd
  | ok s =>
    rw [hs] at hd
    cases hv : s.view with
    | none => simp only [dat, hv] at hd; cases hd
    | some d' =>
      simp only [dat, hv] at hd
      cases hd
      intro v F' H' g r
      obtain ⟨F2, g2, r2⟩ := r.see g hv
      exact q v F2 H' g2 r2
theorem e_shows {m1 m2 : List Da → Rs Sl} {n : Nat} (hn : ∀ (ρ : Rho) (ds : List Da), fs ρ = .ok ds → ds.length = n)
    (h1 : PE X (.Call (.Attribute o "shows" apos) [e] [] pos) (tMeth T.ce "shows" (spS T (n + 1) m1) [] (fun _ _ _ => False) (tD T W f) (tA T W fs)))
    (h2 : PE X (.Call (.Attribute o "shows" apos) [e] [] pos) (tMeth T.cu "shows" (spS T (n + 1) m2) [] (fun _ _ _ => False) (tD T W f) (tA T W fs))) :
    PE X (.Call (.Attribute o "shows" apos) [e] [] pos) (tD T W (eShows f fs m1 m2)) :=
  pe_imp (pe_orR h1 h2) fun σ H Q ⟨F, ρ, ex, vw, hp⟩ => by
    have key : ∀ (m : List Da → Rs Sl) (C : Addr) (d : Da) (v : V) (F1 H1 : Hp), Grow F H F1 H1 → Rep T F1 v d → Post T W σ F1 H1 Q ((fs ρ).bind fun ds => okO (m (d :: ds))) → tA T W fs σ H1 fun vs H2 => spS T (n + 1) m (v :: (vs ++ [])) H2 Q (fun _ _ _ => False) := by
      intro m C d v F1 H1 g1 r1 hp1
      refine ⟨F1, ρ, g1.s, vw.mono g1.f, ?_⟩
      cases hf : fs ρ with
      | no => rw [hf] at hp1; exact hp1.elim
      | ex c => rw [hf] at hp1; exact hp1
      | ok ds =>
        rw [hf] at hp1
        intro vs F2 H2 g2 r2
        rw [List.append_nil]
        refine ⟨by rw [List.length_cons, r2.length, hn ρ ds hf], F2, d :: ds, g2.s, .cons (r1.mono g2.f) r2, ?_⟩
        simp only [Rs.bind] at hp1
        have hp' : Post T W σ F2 H2 Q (okO (m (d :: ds))) := Post.mono g2 hp1
        cases hg : m (d :: ds) with
        | no => rw [hg] at hp'; exact hp'.elim
        | ex c => rw [hg] at hp'; exact hp'.elim
        | ok s => rw [hg] at hp'; exact hp'
    cases hd : dat (f ρ) with
    | no => unfold eShows at hp; rw [hd] at hp; exact hp.elim
    | ex c =>
      unfold eShows at hp; rw [hd] at hp
      refine .inl ⟨F, ρ, ex, vw, ?_⟩
      cases hs : f ρ with
      | no => rw [hs] at hd; cases hd
      | ex c' => rw [hs] at hd; cases hd; exact hp
      | ok s =>
        rw [hs] at hd
        cases hv : s.view with
        | none => simp only [dat, hv] at hd; cases hd
        | some d => simp only [dat, hv] at hd; cases hd
    | ok d0 =>
      unfold eShows at hp
      rw [hd] at hp
      cases d0 with
      | even t =>
        left
        refine eq_d ex vw hd fun v F1 H1 g1 r1 => ?_
        have r1' := r1
        cases r1 with
        | even h r => exact ⟨_, _, _, rfl, g1.s _ _ h, no_shows1, key m1 T.ce _ _ F1 H1 g1 r1' (Post.mono g1 hp)⟩
      | unl a b =>
        right
        refine eq_d ex vw hd fun v F1 H1 g1 r1 => ?_
        have r1' := r1
        cases r1 with
        | unl h r r2 => exact ⟨_, _, _, rfl, g1.s _ _ h, no_shows2, key m2 T.cu _ _ F1 H1 g1 r1' (Post.mono g1 hp)⟩
      | _ => exact hp.elim
end
end G6
namespace G6
open PySem PySem.Spec PyProof.Rows L2
theorem passF {X : Cx} : Passes (L2N.CX X.prog X.w) X (fun _ _ _ => False) := fun _ _ _ _ _ _ _ ⟨_, _, _, _, _, _, _, _, _, _, _, _, z⟩ => z.elim
end G6

namespace G6
open PySem PySem.Spec PyProof.Rows L2
/-! ### xs[e1][e2], xs[e3][e4] = e -/
def sPutV (i : Nat) (d : Da) (f1 f2 : Sem1) : SemS := fun ρ => match ρ[i]?, dat (f1 ρ), dat (f2 ρ) with
  | some (.ow2 xss), .ok (.int k1), .ok (.int k2) => (match put2 xss k1 k2 d with
    | some yss => .nx (ρ.set i (.ow2 yss))
    | none => .no)
  | _, _, _ => .no
def sSwap (i : Nat) (f f1 f2 f3 f4 : Sem1) : SemS := fun ρ => match dat (f ρ) with
  | .ok (.tup [.int a1, .int a2]) => (match ρ[i]?, dat (f1 ρ), dat (f2 ρ) with
    | some (.ow2 xss), .ok (.int k1), .ok (.int k2) => (match put2 xss k1 k2 (.int a1) with
      | some yss => sPutV i (.int a2) f3 f4 (ρ.set i (.ow2 yss))
      | none => .no)
    | _, _, _ => .no)
  | _ => .no
section
variable {X : Cx} {T : Tx} {W : WX} {f f1 f2 f3 f4 : Sem1} {i : Nat} {st : Stmt} {F0 H0 F H : Hp} {σ : St} {ρ : Rho}
theorem put_tgt {v : V} {d : Da} {xss yss : List (List Da)} {k1 k2 : Int} {Q : St → Hp → Prop} (ok' : EnvOk T F0 H0 F H σ ρ) (r : Rep T F v d) (hr : ρ[i]? = some (.ow2 xss)) (hk1 : dat (f1 ρ) = .ok (.int k1)) (hk2 : dat (f2 ρ) = .ok (.int k2)) (hp : put2 xss k1 k2 d = some yss)
    (hq : ∀ H', EnvOk T F0 H0 F H' σ (ρ.set i (.ow2 yss)) → Q σ H') : gSub (tOp (rIxL X.K) (tVar i) (tD T W f1)) (tD T W f2) rSetL v σ H Q := by
  unfold put2 at hp
  cases hx : ixN xss.length k1 with
  | none => rw [hx] at hp; cases hp
  | some j1 =>
    rw [hx] at hp
    dsimp only at hp
    cases hxs : xss[j1]? with
    | none => rw [hxs] at hp; cases hp
    | some xs =>
      rw [hxs] at hp
      dsimp only at hp
      cases hx2 : ixN xs.length k2 with
      | none => rw [hx2] at hp; cases hp
      | some j2 =>
        rw [hx2] at hp
        dsimp only at hp
        cases hp
        obtain ⟨p0, as0, b1, b2, b3, b4⟩ := ok'.mut2 hr
        refine ⟨.ref p0, b1, ?_⟩
        refine run_v ok' hk1 fun u F2 H2 e2 r2 => ?_
        cases r2
        have ok2 := ok'.grow e2
        have hx0 := hx
        rw [← b3] at hx0
        obtain ⟨a, ha1, ha2⟩ := atI_refs hx0
        refine ⟨p0, as0.map V.ref, k1, .ref a, rfl, rfl, SqL.of (e2 _ _ b2), ha2, ?_⟩
        refine run_v ok2 hk2 fun u F3 H3 e3 r3 => ?_
        cases r3
        have ok3 := ok2.grow e3
        obtain ⟨p, as, a1, a2, a3, a4⟩ := ok3.mut2 hr
        rw [b1] at a1; cases a1
        have hH : H3 p0 = some (.lst (as0.map V.ref)) := e3 _ _ (e2 _ _ b2)
        rw [hH] at a2
        have has : as0 = as := by
          have := HO.lst.inj (Option.some.inj a2)
          exact List.map_inj_right (fun x y e => V.ref.inj e) |>.mp this
        subst has
        obtain ⟨vs, xs', c1, c2, c3, c4⟩ := a4 j1 a ha1
        rw [hxs] at c1; cases c1
        exact ⟨a, vs, k2, j2, rfl, rfl, c2, by rw [c3.length]; exact hx2, hq _ (c4 _ _ (c3.set r j2))⟩
theorem run_v2 {Q : VK} {d : Da} (ok : EnvOk T F0 H0 F H σ ρ) (hf : dat (f ρ) = .ok d) (q : ∀ v F' H', Ex H H' → Ex F' H' → Rep T F' v d → Q v H') : tD T W f σ H Q := by
  refine ⟨H, ρ, Ex.refl H, ok.view, ?_⟩
  cases hs : f ρ with
  | no => rw [hs] at hf; cases hf
  | ex c => rw [hs] at hf; cases hf
  | ok s =>
    rw [hs] at hf
    cases hv : s.view with
    | none => simp only [dat, hv] at hf; cases hf
    | some d' =>
      simp only [dat, hv] at hf
      cases hf
      intro v F' H' g r
      obtain ⟨F2, g2, r2⟩ := r.see g hv
      exact q v F2 H' g2.h g2.s r2
theorem s_swap (hK : T.K = X.K) (h : PS X st (tAsg (tD T W f) (gTup X.K 2 (gCons (gSub (tOp (rIxL X.K) (tVar i) (tD T W f1)) (tD T W f2) rSetL) (gCons (gSub (tOp (rIxL X.K) (tVar i) (tD T W f3)) (tD T W f4) rSetL) gNil))))) : PS X st (tS T W (sSwap i f f1 f2 f3 f4)) :=
  ps_imp h fun D σ H ⟨F0, H0, F, ρ, ok, hp⟩ => by
    unfold sSwap at hp
    split at hp
    · rename_i a1 a2 hf
      refine run_v2 ok hf fun v F' H' e s r => ?_
      have ok' := ok.grow e
      cases r with
      | tup h1 r1 =>
        cases r1 with
        | cons ra rt => cases rt with
          | cons rb rn =>
            cases rn
            cases ra
            cases rb
            split at hp
            · rename_i xss k1 k2 hr hk1 hk2
              cases hx : put2 xss k1 k2 (.int a1) with
              | none => rw [hx] at hp; exact hp.elim
              | some yss =>
                rw [hx] at hp
                dsimp only at hp
                refine ⟨_, _, rfl, by rw [← hK]; exact ex_t s h1, rfl, _, _, rfl, put_tgt ok' (.int a1) hr hk1 hk2 hx fun H2 ok2 => ⟨_, _, rfl, ?_⟩⟩
                unfold sPutV at hp
                split at hp
                · rename_i xss2 k3 k4 hr2 hk3 hk4
                  cases hy : put2 xss2 k3 k4 (.int a2) with
                  | none => rw [hy] at hp; exact hp.elim
                  | some zss =>
                    rw [hy] at hp
                    exact put_tgt ok2 (.int a2) hr2 hk3 hk4 hy fun H3 ok3 => ⟨rfl, hp σ F H3 (Ex.refl F) ok3⟩
                · exact hp.elim
            · exact hp.elim
    · exact hp.elim
end
/-! ### a or b, a a list -/
def orL (g : Sem1) (ρ : Rho) : Da → Rs Sl
  | .lst [] => g ρ
  | .lst (x :: xs) => .ok (.sh (.lst (x :: xs)))
  | _ => .no
def eOrL (f g : Sem1) : Sem1 := fun ρ => (dat (f ρ)).bind (orL g ρ)
theorem e_orL {X : Cx} {T : Tx} {W : WX} {a b : Expr} {f g : Sem1} {pos : Pos} {rest : List Expr} (hK : T.K = X.K) (ha : PE X a (tD T W f)) (hb : PE X (.BoolOp .Or (b :: rest) pos) (tD T W g)) : PE X (.BoolOp .Or (a :: b :: rest) pos) (tD T W (eOrL f g)) :=
  pe_imp (pe_orT ha hb) fun σ H Q ⟨F, ρ, e, vw, hp⟩ => bind_d e vw hp fun d v F1 H1 g1 r1 hp1 => by
    cases r1 with
    | lst h1 r2 =>
      cases r2 with
      | nil =>
        refine ⟨false, ?_, ?_⟩
        · exact .inl ⟨_, SqL.of (g1.s _ _ h1), rfl⟩
        · exact ⟨F1, ρ, g1.s, vw.mono g1.f, hp1⟩
      | cons ra rb =>
        refine ⟨true, ?_, ?_⟩
        · exact .inl ⟨_, SqL.of (g1.s _ _ h1), rfl⟩
        · exact post_sh g1.s (.lst h1 (.cons ra rb)) hp1
    | _ => exact hp1.elim
end G6

namespace G6
open PySem PySem.Spec PyProof.Rows L2
/-! ### an own list that is changed no more -/
def frz1 (ρ : Rho) (i : Nat) : Rho := match ρ[i]? with
  | some (.ow xs) => ρ.set i (.sh (.lst xs))
  | some (.ow2 xss) => ρ.set i (.sh (.lst (xss.map .lst)))
  | _ => ρ
def sFrz (i : Nat) (g : SemS) : SemS := fun ρ => g (frz1 ρ i)
section
variable {X : Cx} {T : Tx} {W : WX} {F0 H0 F H : Hp} {σ : St} {ρ : Rho} {i : Nat}
open Classical in
theorem frz_ok {s : Sl} {d : Da} (ok : EnvOk T F0 H0 F H σ ρ) (hi : ρ[i]? = some s) (hs : s.view = some d) : ∃ F', Ex F F' ∧ EnvOk T F0 H0 F' H σ (ρ.set i (.sh d)) := by
  obtain ⟨o, h1, h2, h3, h4⟩ := ok.ow
  let F' : Hp := fun a => if a ∈ o i then H a else F a
  have in_ : ∀ a, a ∈ o i → F' a = H a := fun a ha => if_pos ha
  have out_ : ∀ a, a ∉ o i → F' a = F a := fun a ha => if_neg ha
  have eF : Ex F F' := fun a u hu => by
    by_cases ha : a ∈ o i
    · rw [(h3 i a ha).1] at hu; cases hu
    · rw [out_ a ha]; exact hu
  have eH : Ex F' H := fun a u hu => by
    by_cases ha : a ∈ o i
    · rw [in_ a ha] at hu; exact hu
    · rw [out_ a ha] at hu; exact ok.g.s a u hu
  refine ⟨F', eF, ⟨⟨ok.g.f.trans eF, ok.g.h, eH, fun a u hu => ?_⟩, by rw [List.length_set]; exact ok.len, fun k => if k = i then [] else o k, ?_, ?_, ?_, ?_⟩⟩
  · by_cases ha : a ∈ o i
    · exact .inr (h3 i a ha).2.1
    · rw [out_ a ha] at hu; exact ok.g.n a u hu
  · intro k
    dsimp only
    split
    · exact List.nodup_nil
    · exact h1 k
  · intro k j a hk hj
    dsimp only at hk hj
    split at hk
    · cases hk
    · split at hj
      · cases hj
      · exact h2 k j a hk hj
  · intro k a hk
    dsimp only at hk
    split at hk
    · cases hk
    · rename_i hne
      have na : a ∉ o i := fun z => hne (h2 k i a hk z)
      rw [out_ a na]
      exact h3 k a hk
  · intro k t hk
    dsimp only
    by_cases e : k = i
    · subst e
      rw [if_pos rfl]
      rw [List.getElem?_set_self (List.getElem?_eq_some_iff.mp hi).1] at hk
      cases hk
      have := h4 k s hi
      cases s with
      | dead => cases hs
      | sh d' => cases hs; exact ⟨rfl, by obtain ⟨_, x, e1, e2⟩ := this; exact ⟨x, e1, e2.mono eF⟩⟩
      | ow xs =>
        cases hs
        obtain ⟨p, vs, q1, q2, q3, q4⟩ := this
        refine ⟨rfl, .ref p, q2, .lst (by rw [in_ p (by rw [q1]; exact List.mem_cons_self)]; exact q3) (q4.mono eF)⟩
      | ow2 xss =>
        cases hs
        obtain ⟨p, as, q1, q2, q3, q4⟩ := this
        refine ⟨rfl, .ref p, q2, .lst (by rw [in_ p (by rw [q1]; exact List.mem_cons_self)]; exact q3) (Rows.reps eF (fun a ha => in_ a (by rw [q1]; exact List.mem_cons_of_mem _ ha)) q4)⟩
    · rw [if_neg e]
      rw [List.getElem?_set_ne (Ne.symm e)] at hk
      exact SlE.mono eF (fun a _ => rfl) (h4 k t hk)
theorem post_mono {D : Ends} {F' : Hp} (e : Ex F F') : ∀ {u : Ou}, PostS T W D F0 H0 F u → PostS T W D F0 H0 F' u
  | .nx _, h => fun σ' F2 H' q ok => h σ' F2 H' (e.trans q) ok
  | .bk _, h => fun σ' F2 H' q ok => h σ' F2 H' (e.trans q) ok
  | .ct _, h => fun σ' F2 H' q ok => h σ' F2 H' (e.trans q) ok
  | .rt _, h => h
  | .ex _ _, h => fun C σ' F2 H' m q ok => h C σ' F2 H' m (e.trans q) ok
  | .no, h => h
theorem frz1_ok (ok : EnvOk T F0 H0 F H σ ρ) : ∃ F', Ex F F' ∧ EnvOk T F0 H0 F' H σ (frz1 ρ i) := by
  unfold frz1
  split
  · rename_i xs h; exact frz_ok ok h rfl
  · rename_i xss h; exact frz_ok ok h rfl
  · exact ⟨F, Ex.refl F, ok⟩
theorem frz_imp {g : SemS} {D : Ends} (h : tS T W (sFrz i g) D σ H) : tS T W g D σ H := by
  obtain ⟨F0, H0, F, ρ, ok, hp⟩ := h
  obtain ⟨F', e, ok'⟩ := frz1_ok (i := i) ok
  exact ⟨F0, H0, F', _, ok', post_mono e hp⟩
theorem s_frz {st : Stmt} {g : SemS} (h : PS X st (tS T W g)) : PS X st (tS T W (sFrz i g)) :=
  ps_imp h fun D σ H z => frz_imp z
end
end G6

namespace G6
open PySem PySem.Spec PyProof.Rows L2
/-! ### while -/
def loopW (c : Rho → Rs Bool) (g : SemS) : Nat → Rho → Ou
  | 0, _ => .no
  | n + 1, ρ => match c ρ with
    | .ok true => (match g ρ with
      | .nx ρ' => loopW c g n ρ'
      | _ => .no)
    | .ok false => .nx ρ
    | _ => .no
def sWhile (n : Nat) (c : Rho → Rs Bool) (g : SemS) : SemS := loopW c g n
section
variable {X : Cx} {T : Tx} {W : WX} {F0 H0 F H : Hp} {σ : St} {ρ : Rho} {i j n : Nat} {f : Sem1} {st : Stmt}
theorem s_while {c : Expr} {body : List Stmt} {fc : Rho → Rs Bool} {g : SemS} {pos : Pos} (hpo : PassesOwn (model X.prog X.w) X.A X.env X.xe) (hc : PT X c (tT T W fc)) (hb : PSs X body (tS T W g)) : PS X (.While c body [] pos) (tS T W (sWhile n fc g)) :=
  ps_imp (ps_while hpo hc hb) fun D σ H ⟨F0, H0, F, ρ, ok, hp⟩ => by
    refine ⟨fun m σ H => ∃ F ρ, EnvOk T F0 H0 F H σ ρ ∧ PostS T W D F0 H0 F (loopW fc g m ρ), ⟨n, F, ρ, ok, hp⟩, ?_⟩
    rintro m σ H ⟨F, ρ, ok, hp⟩
    cases m with
    | zero => exact hp.elim
    | succ m =>
      unfold loopW at hp
      cases hc : fc ρ with
      | no => rw [hc] at hp; exact hp.elim
      | ex c => rw [hc] at hp; exact hp.elim
      | ok b =>
        rw [hc] at hp
        refine ⟨H, ρ, Ex.refl H, ok.view, ?_⟩
        rw [hc]
        intro F' H' gr
        have ok' := ok.grow gr.h
        cases b with
        | false =>
          rw [if_neg Bool.false_ne_true]
          exact hp σ F H' (Ex.refl F) ok'
        | true =>
          rw [if_pos rfl]
          dsimp only at hp
          cases hg : g ρ with
          | nx ρ' =>
            rw [hg] at hp
            exact ⟨fun σ' H' => ∃ F ρ, EnvOk T F0 H0 F H' σ' ρ ∧ PostS T W D F0 H0 F (loopW fc g m ρ), fun σ' H' ⟨F, ρ, a, b⟩ => ⟨m, Nat.lt_succ_self m, F, ρ, a, b⟩, F0, H0, F, ρ, ok', by rw [hg]; exact fun σ' F' H' e k => ⟨F', ρ', k, PostS.mono e hp⟩⟩
          | _ => rw [hg] at hp; exact hp.elim
/-! ### xs.append(ys.pop(e)) -/
def sAppPop (i j : Nat) (f : Sem1) : SemS := fun ρ => match ρ[i]?, ρ[j]?, dat (f ρ) with
  | some (.ow xs), some (.ow ys), .ok (.int k) => if xs.length ≤ 1000000 ∧ ys.length ≤ 1000000 ∧ i ≠ j then (match ixN ys.length k with
    | some n => (match ys[n]? with
      | some y => .nx ((ρ.set j (.ow (ys.eraseIdx n))).set i (.ow (xs ++ [y])))
      | none => .no)
    | none => .no) else .no
  | _, _, _ => .no
theorem RepAll.erase {F : Hp} : ∀ {vs : List V} {xs : List Da} (n : Nat), RepAll T F vs xs → RepAll T F (vs.eraseIdx n) (xs.eraseIdx n)
  | _, _, _, .nil => .nil
  | _, _, 0, .cons _ r => r
  | _, _, n + 1, .cons a r => .cons a (RepAll.erase n r)
theorem RepAll.at_ {F : Hp} : ∀ {vs : List V} {xs : List Da} {n : Nat} {x : Da}, RepAll T F vs xs → xs[n]? = some x → ∃ v, vs[n]? = some v ∧ Rep T F v x
  | _, _, n, x, .nil, h => by simp at h
  | _, _, 0, x, .cons (v := v) a r, h => by simp at h; subst h; exact ⟨v, rfl, a⟩
  | _, _, n + 1, x, .cons a r, h => by
    obtain ⟨v, h1, h2⟩ := RepAll.at_ (n := n) r (by simpa using h)
    exact ⟨v, by simpa using h1, h2⟩
theorem s_appPop (h : PS X st (tDrop (tBM X.K "list" rAppend (tVar i) (tCons (tBM X.K "list" rPopAt (tVar j) (tCons (tD T W f) tNil)) tNil)))) : PS X st (tS T W (sAppPop i j f)) :=
  ps_imp h fun D σ H ⟨F0, H0, F, ρ, ok, hp⟩ => by
    unfold sAppPop at hp
    split at hp
    · rename_i xs ys k hi hj hk
      split at hp
      · rename_i hz
        obtain ⟨z1, z2, hij⟩ := hz
        cases hx : ixN ys.length k with
        | none => rw [hx] at hp; exact hp.elim
        | some m =>
          rw [hx] at hp
          dsimp only at hp
          cases hy : ys[m]? with
          | none => rw [hy] at hp; exact hp.elim
          | some y =>
            rw [hy] at hp
            dsimp only at hp
            obtain ⟨p, vs, e1, e2, e3, e4⟩ := ok.mutO hi
            refine ⟨.ref p, e1, tyl e2, ?_⟩
            obtain ⟨q, us, d1, d2, d3, d4⟩ := ok.mutO hj
            refine ⟨.ref q, d1, tyl d2, ?_⟩
            refine run_v ok hk fun u F' H' e r => ?_
            cases r
            have ok' := ok.grow e
            obtain ⟨q', us', f1, f2, f3, f4⟩ := ok'.mutO hj
            rw [d1] at f1; cases f1
            obtain ⟨w, w1, w2⟩ := f3.at_ hy
            obtain ⟨s1, s2, s3, s4⟩ := ixN_seq hx
            have z2' : (ys.length : Int) ≤ 1000000 := by omega
            refine ⟨q, us', k, m, w, rfl, rfl, f2, by omega, by omega, by rw [f3.length]; exact s1, w1, ?_⟩
            have ok2 := f4 _ _ (f3.erase m)
            have hi' : (ρ.set j (.ow (ys.eraseIdx m)))[i]? = some (.ow xs) := by rw [List.getElem?_set_ne (Ne.symm hij)]; exact hi
            obtain ⟨p', vs', g1, g2, g3, g4⟩ := ok2.mutO hi'
            rw [e1] at g1; cases g1
            exact ⟨p, vs', w, rfl, rfl, g2, lt_size (by rw [g3.length]; exact z1), hp σ F _ (Ex.refl F) (g4 _ _ (g3.append (.cons w2 .nil)))⟩
      · exact hp.elim
    · exact hp.elim
/-! ### xs[lo:hi:step], by written numbers -/
def pick {α : Type} (lo hi st : Int) (xs : List α) : List α := (sliceRange (sliceBounds (some lo) (some hi) (some st) xs.length).1 (sliceBounds (some lo) (some hi) (some st) xs.length).2.1 (sliceBounds (some lo) (some hi) (some st) xs.length).2.2).filterMap (xs[·]?)
theorem vals_pick {vs : List V} {us : List Value} (r : Vals vs us) : ∀ L : List Nat, Vals (L.filterMap (vs[·]?)) (L.filterMap (us[·]?))
  | [] => .nil
  | n :: L => by
    cases h : vs[n]? with
    | none => rw [List.filterMap_cons, List.filterMap_cons, h, r.none_of h]; exact vals_pick r L
    | some v =>
      obtain ⟨u, h1, h2⟩ := r.get h
      rw [List.filterMap_cons, List.filterMap_cons, h, h1]
      exact .cons h2 (vals_pick r L)
theorem RepAll.pick {F : Hp} {vs : List V} {ds : List Da} (r : RepAll T F vs ds) : ∀ L : List Nat, RepAll T F (L.filterMap (vs[·]?)) (L.filterMap (ds[·]?))
  | [] => .nil
  | n :: L => by
    cases h : ds[n]? with
    | none =>
      have h' : vs[n]? = none := by
        rw [List.getElem?_eq_none_iff] at h ⊢
        rw [r.length]; exact h
      rw [List.filterMap_cons, List.filterMap_cons, h, h']; exact RepAll.pick r L
    | some d =>
      obtain ⟨u, h1, h2⟩ := r.at_ h
      rw [List.filterMap_cons, List.filterMap_cons, h, h1]
      exact .cons h2 (RepAll.pick r L)
def tStp (K : PySem.W.Frag) (lo hi st : Int) (te : TE) : TE := fun σ H Q => te σ H fun x H1 => ∃ a xs, x = .ref a ∧ SqL K H1 a xs ∧ ∀ p, H1 p = none → Q (.ref p) (upd H1 p (.lst (pick lo hi st xs)))
theorem pe_stp {e : Expr} {te : TE} {lo hi st : Int} {k1 k2 k3 : Nat} {p1 p2 p3 p4 pos : Pos} (h0 : st ≠ 0) (he : PE X e te) : PE X (.Subscript e (.Slice (some (.Constant (.int lo) k1 p1)) (some (.Constant (.int hi) k2 p2)) (some (.Constant (.int st) k3 p3)) p4) pos) (tStp X.K lo hi st te) := by
  refine ⟨fun pins s σ H Q I h => ?_⟩
  refine Subscript_ (thn (he.run pins s σ H _ I h) fun v s1 ⟨x, H1, I1, r1, q1⟩ => ?_)
  obtain ⟨a, xs, ex, hx, q⟩ := q1
  subst ex
  cases r1
  have hl : PO X (some (.Constant (.int lo) k1 p1)) (tPart (tC (.int lo))) := po_some pe_int
  have hh : PO X (some (.Constant (.int hi) k2 p2)) (tPart (tC (.int hi))) := po_some pe_int
  have hst : PO X (some (.Constant (.int st) k3 p3)) (tPart (tC (.int st))) := po_some pe_int
  refine wpAny_Slice (thn (hl.run pins s1 σ H1 (fun o H2 => o = some lo ∧ H2 = H1) I1 ⟨lo, rfl, rfl, rfl⟩) fun vl s2 ⟨l, H2, I2, pl, el, e2⟩ => ?_)
  subst el e2
  refine thn (hh.run pins s2 σ H2 (fun o H3 => o = some hi ∧ H3 = H2) I2 ⟨hi, rfl, rfl, rfl⟩) fun vu s3 ⟨u, H3, I3, pu, eu, e3⟩ => ?_
  subst eu e3
  refine thn (hst.run pins s3 σ H3 (fun o H4 => o = some st ∧ H4 = H3) I3 ⟨st, rfl, rfl, rfl⟩) fun vs s4 ⟨o, H4, I4, ps, eo, e4⟩ => ?_
  subst eo e4
  have I5 : Inv X pins σ H4 { s4 with heap := s4.heap.push { cls := .type "slice", data := .fields #[vl, vu, vs] } } := I4.kept (t' := s4.toks) fun b ob q => Heap.get?_push_of_some _ q
  obtain ⟨its, r, ht, hz⟩ := I5.list hx
  have hlen := r.length
  refine tail_any (ops := [.ref a, .ref s4.heap.objs.size]) ht.isList.typeIs (PySem.slot_list_getitem.lookup) ?_ (by with_unfolding_all rfl)
  refine wpAny_getItem_list_slice ht.isList (Heap.IsSliceOf.new _ vl vu vs) pl pu ps (fun z => h0 (Option.some.inj z)) ?_ (by rw [List.size_toArray]; omega)
  have hle := slicePick_size_le its.toArray (some lo) (some hi) (some st)
  refine ⟨.ref _, _, I5.laid (t' := s4.toks) (o := .lst (pick lo hi st xs)) (fun b ob q => Heap.get?_push_of_some _ q) (Nat.le_refl _) ?_, rfl, q _ (I5.hok.fresh (Nat.le_refl _))⟩
  have hv : Vals (pick lo hi st xs) (pick lo hi st its) := by
    unfold pick
    rw [hlen]
    exact vals_pick r _
  have hp : slicePick its.toArray (some lo) (some hi) (some st) = (pick lo hi st its).toArray := by
    unfold slicePick pick
    simp only [List.size_toArray, List.getElem?_toArray]
  rw [hp, List.size_toArray] at hle
  rw [List.size_toArray] at hle
  refine ⟨by rw [hv.length]; omega, _, 0, hv, ?_⟩
  rw [← hp]
  exact Heap.get?_push_size _ rfl
def kStp (lo hi st : Int) (d : Da) : Option Sl := (asL d).map fun xs => .ow (pick lo hi st xs)
theorem e_stp {e : Expr} {lo hi st : Int} {k1 k2 k3 : Nat} {p1 p2 p3 p4 pos : Pos} (h0 : st ≠ 0) (hK : T.K = X.K) (he : PE X e (tD T W f)) : PE X (.Subscript e (.Slice (some (.Constant (.int lo) k1 p1)) (some (.Constant (.int hi) k2 p2)) (some (.Constant (.int st) k3 p3)) p4) pos) (tD T W (eUn (kStp lo hi st) f)) :=
  pe_imp (pe_stp h0 he) fun σ H Q ⟨F, ρ, e, vw, hp⟩ => by
    refine bind_d e vw hp fun d v F1 H1 g1 r1 hp1 => ?_
    unfold kStp at hp1
    cases hd : asL d with
    | none => rw [hd] at hp1; exact hp1.elim
    | some xs =>
      rw [hd] at hp1
      obtain ⟨a, vs, rfl, h1, h2⟩ := r1.list hd
      rw [hK] at h1
      refine ⟨a, vs, rfl, ex_l g1.s h1, fun p hn => new_ow g1.s ?_ hp1 hn⟩
      unfold pick
      rw [h2.length]
      exact h2.pick _
end
end G6

namespace G6
open PySem PySem.Spec PyProof.Rows L2
/-! ### the caught error -/
def Tx.at (T : Tx) (a : Addr) : Tx := { T with ea := some a }
section
variable {T : Tx} {a : Addr} {F H F0 H0 : Hp} {σ : St} {ρ : Rho}
mutual
theorem Rep.toAt (hT : T.ea = none) {H : Hp} : ∀ {v : V} {d : Da}, Rep T H v d → Rep (T.at a) H v d
  | _, _, .non => .non
  | _, _, .bl b => .bl b
  | _, _, .int i => .int i
  | _, _, .str s => .str s
  | _, _, .lst h r => .lst h (RepAll.toAt hT r)
  | _, _, .tup h r => .tup h (RepAll.toAt hT r)
  | _, _, .emp h => .emp h
  | _, _, .even h r => .even h (Rep.toAt hT r)
  | _, _, .unl h r q => .unl h (Rep.toAt hT r) (Rep.toAt hT q)
  | _, _, .scr h => .scr h
  | _, _, .kt h1 h2 h3 h r => .kt h1 h2 h3 h (RepAll.toAt hT r)
  | _, _, .err h => by rw [hT] at h; cases h
theorem RepAll.toAt (hT : T.ea = none) {H : Hp} : ∀ {vs : List V} {ds : List Da}, RepAll T H vs ds → RepAll (T.at a) H vs ds
  | _, _, .nil => .nil
  | _, _, .cons r t => .cons (Rep.toAt hT r) (RepAll.toAt hT t)
end
theorem Rows.toAt (hT : T.ea = none) : ∀ {as : List Addr} {xss : List (List Da)}, Rows T F H as xss → Rows (T.at a) F H as xss
  | [], [], _ => trivial
  | _ :: _, _ :: _, ⟨⟨vs, h, r⟩, t⟩ => ⟨⟨vs, h, r.toAt hT⟩, Rows.toAt hT t⟩
  | [], _ :: _, h => h.elim
  | _ :: _, [], h => h.elim
theorem EnvOk.toAt (hT : T.ea = none) (ok : EnvOk T F0 H0 F H σ ρ) : EnvOk (T.at a) F0 H0 F H σ ρ := by
  obtain ⟨o, h1, h2, h3, h4⟩ := ok.ow
  refine ⟨ok.g, ok.len, o, h1, h2, h3, fun i s hs => ?_⟩
  have := h4 i s hs
  cases s with
  | dead => exact this
  | sh d => obtain ⟨q, x, e1, e2⟩ := this; exact ⟨q, x, e1, e2.toAt hT⟩
  | ow xs => obtain ⟨p, vs, q1, q2, q3, q4⟩ := this; exact ⟨p, vs, q1, q2, q3, q4.toAt hT⟩
  | ow2 xss => obtain ⟨p, as, q1, q2, q3, q4⟩ := this; exact ⟨p, as, q1, q2, q3, q4.toAt hT⟩
theorem Rep.flat {v : V} {d : Da} (r : Rep (T.at a) H v d) (h : seps d = true) : Rep T H v d := by
  cases r with
  | non => exact .non
  | bl b => exact .bl b
  | int i => exact .int i
  | str s => exact .str s
  | _ => cases h
theorem RepAll.flat : ∀ {vs : List V} {ds : List Da}, RepAll (T.at a) H vs ds → ds.all seps = true → RepAll T H vs ds
  | _, _, .nil, _ => .nil
  | _, _, .cons r t, h => by
    rw [List.all_cons, Bool.and_eq_true] at h
    exact .cons (r.flat h.1) (RepAll.flat t h.2)
def flatS : Sl → Bool
  | .sh d => seps d
  | .ow xs => xs.all seps
  | _ => false
theorem SlV.flat {v : V} {s : Sl} (h : SlV (T.at a) H0 F H v s) (hs : flatS s = true) : SlV T H0 F H v s := by
  cases s with
  | dead => cases hs
  | sh d => exact Rep.flat h hs
  | ow xs => obtain ⟨p, vs, q1, q2, q3, q4, q5⟩ := h; exact ⟨p, vs, q1, q2, q3, q4, q5.flat hs⟩
  | ow2 xss => cases hs
end
/-! ### try: body, except C as e: suite that returns -/
def sTry (i : Nat) (cs : List Str) (g : SemS) (h : Str → SemS) : SemS := fun ρ => match g ρ with
  | .nx ρ' => .nx ρ'
  | .rt s => .rt s
  | .ex c ρ' => if cs.contains c = true then (match h c (ρ'.set i (.sh .err)) with
    | .rt s => if flatS s = true then .rt s else .no
    | _ => .no) else .no
  | _ => .no
section
variable {X : Cx} {T : Tx} {W : WX} {g : SemS} {h : Str → SemS} {i : Nat} {cs : List Str} {x n : Str} {C0 : Addr} {body suite : List Stmt} {b₀ : Stmt} {np pos pos' : Pos}
theorem s_try (hT : T.ea = none) (hmg : T.mg = X.mg) (hs : X.stack = X.env :: X.outer) (hf : X.env.frame = some X.env.locals) (hN : X.N.Nodup) (hi : X.N[i]? = some n) (hln : X.env.kindOf n = some .local) (hc : Names X x (.ref C0)) (tk : L2N.Takes X W)
    (hx : ∀ c, cs.contains c = true → ∀ C, X.mg c = some (.ref C) → PySem.W.exmOne X.K (.ref C) (.ref C0) = some true)
    (hb : ∀ (W : WX) (pn : List (Addr × Obj)) (xe : Value → Shared → Prop), L2N.Takes (X.tr pn xe) W → PSs (X.tr pn xe) body (tS T W g))
    (hsu : ∀ c, cs.contains c = true → ∀ C, X.mg c = some (.ref C) → ∀ (a : Addr) (oe : Obj) (pn : List (Addr × Obj)), L2N.Zn (.ref C) none oe → (∃ vs, oe.data = .fields vs) → PSs (X.suite a ((a, oe) :: pn)) (b₀ :: suite) (tS (T.at a) W (h c))) :
    PS X (.Try body [.ExceptHandler (some (.Name x np)) (some n) (b₀ :: suite) pos'] [] [] pos) (tS T W (sTry i cs g h)) := by
  refine ps_imp (L2N.ps_try_as (i := i) (tb := fun W => tS T W g) (ts := fun a cls d D σ H => ∃ c C, cs.contains c = true ∧ X.mg c = some (.ref C) ∧ cls = .ref C ∧ d = none ∧ tS (T.at a) W (h c) D σ H) hs hf hN hi hln hc tk (fun W pn xe tk _ => hb W pn xe tk) fun a oe cls d pn hz hfd => ?_) fun D σ H ⟨F0, H0, F, ρ, ok, hp⟩ => ?_
  · refine ⟨fun pins s σ H D I q => ?_⟩
    obtain ⟨c, C, q1, q2, rfl, rfl, q3⟩ := q
    exact (hsu c q1 C q2 a oe pn hz hfd).run pins s σ H D I q3
  · refine ⟨F0, H0, F, ρ, ok, ?_⟩
    unfold sTry at hp
    cases hg : g ρ with
    | nx ρ' => rw [hg] at hp; exact hp
    | rt s => rw [hg] at hp; exact hp
    | bk _ => rw [hg] at hp; exact hp.elim
    | ct _ => rw [hg] at hp; exact hp.elim
    | no => rw [hg] at hp; exact hp.elim
    | ex c ρ' =>
      rw [hg] at hp
      dsimp only at hp
      split at hp
      · rename_i hcs
        intro C σ' F' H' hm e1 ok'
        have hm' : X.mg c = some (.ref C) := by rw [← hmg]; exact hm
        refine ⟨true, hx c hcs C hm', fun _ a ha => ?_, fun z => Bool.noConfusion z⟩
        have ok2 : EnvOk (T.at a) F0 H0 F' H' (σ'.set i (some (.ref a))) (ρ'.set i (.sh .err)) := (ok'.toAt hT).putD (.err rfl)
        refine ⟨c, C, hcs, hm', rfl, rfl, F0, H0, F', _, ok2, ?_⟩
        cases hh : h c (ρ'.set i (.sh .err)) with
        | rt s =>
          rw [hh] at hp
          dsimp only at hp
          split at hp
          · rename_i hfl
            exact fun v F2 H2 gr sl => hp v F2 H2 gr (sl.flat hfl)
          · exact hp.elim
        | _ => rw [hh] at hp; exact hp.elim
      · exact hp.elim
end
/-! ### isinstance(e, C) -/
def kIsE (b : Bool) : Da → Option Sl
  | .err => some (.sh (.bl b))
  | _ => none
section
variable {X : Cx} {T : Tx} {W : WX} {f : Sem1} {o : Expr} {x : Str} {a D C : Addr} {oe : Obj} {pn : List (Addr × Obj)} {b : Bool} {p p2 pos : Pos}
theorem e_isE (EC : ExcC X.K D) (hz : Zc (.ref D) none oe) (hfd : ∃ vs, oe.data = .fields vs) (hk : PySem.W.kitOne X.K (.ref D) (.ref C) = some b) (hg : Gl (X.suite a ((a, oe) :: pn)) "isinstance") (hm : X.mg "isinstance" = none) (ho : PE (X.suite a ((a, oe) :: pn)) o (tD (T.at a) W f)) (hg2 : Gl (X.suite a ((a, oe) :: pn)) x) (hm2 : X.mg x = some (.ref C))
    (hd2 : (x == ("__debug__" : Str)) = false := by decide) (hb : bootBuiltins "isinstance" = some (.builtin "isinstance") := by decide +kernel)
    (hs1 : starEach [.Name x p2] X.env = (false, eval (.Name x p2) X.env) :: starEach [] X.env := by rfl)
    (he : starEach (o :: [.Name x p2]) X.env = (false, eval o X.env) :: starEach [.Name x p2] X.env := by rfl) (hpl : (backTo pos (starEach [.Name x p2] X.env)).any (·.1) = false := by rfl) :
    PE (X.suite a ((a, oe) :: pn)) (.Call (.Name "isinstance" p) [o, .Name x p2] [] pos) (tD (T.at a) W (eUn (kIsE b) f)) :=
  pe_imp (pe_callB (call_isE EC hz hfd) hg hm hb (pa_cons ho (pa_cons (pe_glob (v := .ref C) hg2 hm2 rfl hd2) pa_nil hs1) he) (by decide) (by decide) he hpl) fun σ H Q ⟨F, ρ, e, vw, hp⟩ => by
    refine bind_d e vw hp fun d v F1 H1 g1 r1 hp1 => ?_
    cases r1 with
    | err h =>
      cases h
      exact ⟨.ref C, .ref C, b, rfl, fun u r => by cases r; rfl, hk, post_sh g1.s (.bl b) hp1⟩
    | _ => exact hp1.elim
theorem e_isEb {t : String} (EC : ExcC X.K D) (hz : Zc (.ref D) none oe) (hfd : ∃ vs, oe.data = .fields vs) (hk : PySem.W.kitOne X.K (.ref D) (.type t) = some b) (hg : Gl (X.suite a ((a, oe) :: pn)) "isinstance") (hm : X.mg "isinstance" = none) (ho : PE (X.suite a ((a, oe) :: pn)) o (tD (T.at a) W f)) (hg2 : Gl (X.suite a ((a, oe) :: pn)) x) (hm2 : X.mg x = none) (hv2 : bootBuiltins x = some (.type t))
    (hn2 : x ≠ "__name__" := by decide) (hd2 : (x == ("__debug__" : Str)) = false := by decide) (hb : bootBuiltins "isinstance" = some (.builtin "isinstance") := by decide +kernel)
    (hs1 : starEach [.Name x p2] X.env = (false, eval (.Name x p2) X.env) :: starEach [] X.env := by rfl)
    (he : starEach (o :: [.Name x p2]) X.env = (false, eval o X.env) :: starEach [.Name x p2] X.env := by rfl) (hpl : (backTo pos (starEach [.Name x p2] X.env)).any (·.1) = false := by rfl) :
    PE (X.suite a ((a, oe) :: pn)) (.Call (.Name "isinstance" p) [o, .Name x p2] [] pos) (tD (T.at a) W (eUn (kIsE b) f)) :=
  pe_imp (pe_callB (call_isE EC hz hfd) hg hm hb (pa_cons ho (pa_cons (pe_bltn (v := .ty t) hg2 hm2 hv2 rfl hn2 hd2) pa_nil hs1) he) (by decide) (by decide) he hpl) fun σ H Q ⟨F, ρ, e, vw, hp⟩ => by
    refine bind_d e vw hp fun d v F1 H1 g1 r1 hp1 => ?_
    cases r1 with
    | err h =>
      cases h
      exact ⟨.ty t, .type t, b, rfl, fun u r => by cases r; rfl, hk, post_sh g1.s (.bl b) hp1⟩
    | _ => exact hp1.elim
/-! ### {} -/
theorem e_emp {X : Cx} {pos : Pos} : PE X (.Dict [] [] pos) (tD T W (eC .emp)) :=
  pe_imp pe_dnewK fun σ H Q ⟨F, ρ, e, vw, hp⟩ p hn => hp (.ref p) _ _ (Grow.new e hn) (.emp upd_same)
end
/-! ### x == [], whatever x holds -/
def kEqN (d e : Da) : Option Sl := match d, e with
  | .lst (_ :: _), .lst [] => some (.sh (.bl false))
  | d, e => kEq d e
def rEqS (K : PySem.W.Frag) : R2 := fun x y H Q => ∃ a b xs ys, x = .ref a ∧ y = .ref b ∧ SqL K H a xs ∧ SqL K H b ys ∧ xs.length ≠ ys.length ∧ Q (.bl false) H
def rEqN (K : PySem.W.Frag) : R2 := fun x y H Q => rEqD K x y H Q ∨ rEqS K x y H Q
theorem op_eqS {X : Cx} (hu : X.A.units < cLine) : OpR X (compareOp .Eq) (rEqS X.K) := by
  intro pins s σ H x y v u Q I rx ry h
  obtain ⟨a, b, xs, ys, rfl, rfl, h1, h2, hne, q⟩ := h
  cases rx
  cases ry
  obtain ⟨its, r1, l1, _⟩ := I.list h1
  obtain ⟨its2, r2, l2, _⟩ := I.list h2
  refine PySem.SeqAt.eq_list_lengthsAt l1.isList l2.isList ?_ hu ⟨.bl false, H, I, rfl, q⟩
  rw [List.size_toArray, List.size_toArray, ← r1.length, ← r2.length]
  exact bne_iff_ne.mpr hne
theorem op_eqN {X : Cx} (hu : X.A.units + 64 < cLine) : OpR X (compareOp .Eq) (rEqN X.K) := (op_eqD hu).or (op_eqS (by omega))
theorem rd_eqN {T : Tx} : RD2 T (rEqN T.K) kEqN := fun F H x y d e s Q ex rx ry hk q => by
  unfold kEqN at hk
  split at hk
  · cases hk
    refine .inr ?_
    cases rx with
    | lst h1 r1 => cases ry with
      | lst h2 r2 =>
        cases r2
        cases r1
        exact ⟨_, _, _, _, rfl, rfl, SqL.of (ex _ _ h1), SqL.of (ex _ _ h2), by simp, q _ F H (Grow.refl ex) (.bl _)⟩
  · exact .inl (rd_eq F H x y d e s Q ex rx ry hk q)
theorem kit_eqb {K : PySem.W.Frag} {u v : Value} {b : Bool} {x y : Str} (h : PySem.W.kitOne K u v = some b) (e : (x == y) = b) : PySem.W.kitOne K u v = some (x == y) := by rw [h, e]
end G6

namespace PySem
open PySem.Spec PyProof.Rows HotX
section
variable {prog : Program} {w : World} {A : Around} {E : Value → Shared → Prop} {s : Shared}
theorem pyNext_list_end_hot {it l x1 : Addr} {i : Nat} {items : Array Value} {Q : Option Value → Shared → Prop} (hot : HotAt A x1 s.heap) (hxi : x1 ≠ it)
    (hit : s.heap.IsListIter it l i) (hl : s.heap.IsList l items) (hx : items[i]? = none)
    (hQ : ∀ h', (∀ b o, b ≠ it → s.heap.get? b = some o → h'.get? b = some o) → Q none { s with heap := h' }) : wpAny (model prog w) A (pyNext (.ref it)) Q E s := by
  obtain ⟨o, ho, hc, hd⟩ := id hit
  obtain ⟨ol, hol, _, nl, hdl⟩ := hl
  obtain ⟨hh, o1, vs1, h1, d1, c1⟩ := hot
  unfold pyNext
  refine wpAny_bind (wpAny_attempt (wpAny_callSpecial?_slot (name := Str.ofString "__next__") hit.typeIs slot_listiter_next
    (wpAny_call_entry slot_listiter_next hit.typeIs entry_listiter_next ?_ (args_listiter_next _))))
  show wpAny _ _ (field (.ref it) 0 >>= _) _ _ s
  refine wpAny_bind (wpAny_field ho hd (x := .ref l) rfl ?_)
  show wpAny _ _ (if (Value.ref l == Value.none) = true then _ else _) _ _ s
  rw [if_neg (show ¬ ((Value.ref l == Value.none) = true) from Bool.false_ne_true)]
  show wpAny _ _ (field (.ref it) 1 >>= _) _ _ s
  refine wpAny_bind (wpAny_field ho hd (x := .int i 0) rfl ?_)
  show wpAny _ _ (seqItems? (.ref l) >>= _) _ _ s
  refine wpAny_bind (wpAny_seqItems hol hdl ?_)
  simp only [Int.toNat_natCast, hx]
  refine wpAny_bind (wpAny_rule (wpAny_bind (wpAny_setField ho hd (by simp) ?_)))
  show wpAny _ _ (newExc (.type "StopIteration") [] >>= _) _ _ _
  refine wpAny_bind ?_
  simp only [newExc, newTuple]
  refine wpAny_bind (wpAny_newObj_type ?_ (by size_fits))
  refine wpAny_bind (m := firstArgMember _ _) (wpAny_of_eq (a := Value.none) (by first | rfl | (simp only [firstArgMember]; rfl)) ?_)
  refine wpAny_newObj_type ?_ (by size_fits)
  refine raiseNew_hot (A := A.in1) (x1 := x1) ⟨hh, o1, vs1, Heap.get?_push_of_some _ (Heap.get?_push_of_some _ ((Heap.get?_update_other _ _ (Ne.symm hxi)).trans h1)), d1, c1⟩ (Nat.ne_of_lt (Heap.lt_size (Heap.get?_push_of_some _ ((Heap.get?_update_other _ _ (Ne.symm hxi)).trans h1)))) (Heap.get?_push_size _ rfl) rfl (by first | (simp; done) | (simp; omega) | (simp only [Array.size_append]; simp; omega)) ?_
  refine wpAny_bind (wpAny_isInstance (T := "StopIteration") (b := true) ⟨_, Heap.get?_update_self _ (Heap.get?_push_size _ rfl) rfl, rfl⟩ isSubtype_stop ?_)
  refine wpAny_pure (hQ _ fun b o e eb => ?_)
  have eb' := (Heap.get?_update_other s.heap (a := it) (Obj.mapFields fun x => x.setIfInBounds 0 Value.none) (Ne.symm e)).trans eb
  rw [Heap.get?_update_other _ _ (Nat.ne_of_gt (Heap.lt_size (Heap.get?_push_of_some _ eb')))]
  exact Heap.get?_push_of_some _ (Heap.get?_push_of_some _ eb')
theorem Walks.listH {x1 : Addr} (hh : A.handled = some (.ref x1)) (I ax : Addr) (hne : ax ≠ I) (hx : x1 ≠ I) (items : Array Value) :
    Walks prog w A I [I, ax, x1] [I] items.size (fun i v => items[i]? = some v) (fun i h => (h.IsListIter I ax i ∧ h.IsList ax items) ∧ HotAt A x1 h) where
  sub := fun b hb => by simp at hb; simp [hb]
  frame := fun _ _ _ st hk => ⟨⟨st.1.1.at fun o e => hk I (by simp) o e, st.1.2.at fun o e => hk ax (by simp) o e⟩, by
    obtain ⟨h1, o, vs, h2, h3, h4⟩ := st.2
    exact ⟨h1, o, vs, hk x1 (by simp) o h2, h3, h4⟩⟩
  item := fun i s Q E hi st hQ => by
    refine wpAny_pyNext_list_item st.1.1 st.1.2 (x := items[i]) (by simp [hi]) fun h' hit' hs' => ?_
    refine hQ _ h' s.toks (by simp [hi]) ⟨⟨hit', st.1.2.extBut hs'.extBut hne⟩, ?_⟩ fun b o hb e => hs'.extBut b o (fun h => hb (by simp [h])) e
    obtain ⟨h1, o, vs, h2, h3, h4⟩ := st.2
    exact ⟨h1, o, vs, hs'.extBut x1 o hx h2, h3, h4⟩
  done := fun s Q E st hQ => pyNext_list_end_hot st.2 hx st.1.1 st.1.2 (by simp) fun h' he' => hQ h' s.toks fun b o hb e => he' b o (fun h => hb (by simp [h])) e
  self := fun _ _ _ _ st hQ => wpAny_pyIter_listiter st.1.1 hQ
end
end PySem
namespace G6
open PySem PySem.Spec PyProof.Rows L2 HotX
theorem cr_anyH {X : Cx} (c : L2H.HotC X) : CallR X (.builtin "any") (rAny X.K) := by
  intro pins s σ H vs us Q I r h
  obtain ⟨a, bs, rfl, hs, q⟩ := h
  obtain ⟨its, rv, hl, _⟩ := I.list hs
  rw [Vals.ref1 r]
  have hb := rv.bls
  obtain ⟨x1, hot⟩ := c.at I
  obtain ⟨hh, o1, vs1, h1, d1, c1⟩ := id hot
  refine call_any_walk (iter_any hl.isList fun s₂ e2 st hne => ?_)
  subst e2
  refine ⟨_, _, _, _, _, _, _, rfl, Walks.listH (A := X.A.in1) (x1 := x1) hh _ a hne (Nat.ne_of_lt (Heap.lt_size h1)) its.toArray, ⟨st, hh, o1, vs1, Heap.get?_push_of_some _ h1, d1, c1⟩, truth_bools hb, fun h' tk hk => ?_⟩
  refine ⟨.bl _, H, I.kept fun b o eo => hk b o (fun hmem => ?_) (Heap.get?_push_of_some _ eo), ?_, q⟩
  · rcases List.mem_cons.mp hmem with e1 | hmem
    · exact absurd (e1 ▸ Heap.lt_size eo) (Nat.lt_irrefl _)
    · cases hmem
  · show Value.bool _ = Value.bool _
    rw [← L2.any_range, hb, List.size_toArray, List.length_map]
theorem hot_suite {X : Cx} {a : Addr} {oe : Obj} {pn : List (Addr × Obj)} {cls : Value} {d : Option Addr} (hz : L2N.Zn cls d oe) (hfd : ∃ vs, oe.data = .fields vs) : L2H.HotC (X.suite a ((a, oe) :: pn)) := by
  obtain ⟨vs, hv⟩ := hfd
  exact ⟨(a, oe), ⟨rfl, vs, hv, hz.2.2 vs hv⟩, List.mem_cons_self⟩
/-! ### len(set(xs)) -/
def lenSet (ns : List Int) : Nat := (firstMet (fun i => ns.getD i 0) ns.length).length
def kLenSet (d : Da) : Option Sl := ((asL d).bind asInts).bind fun ns => if ns.length ≤ 4000 then some (.sh (.int (lenSet ns : Nat))) else none
def tLenSetG (K : PySem.W.Frag) (ta : TE) : TE := fun σ H Q => ta σ H fun x H1 => ∃ (l : Addr) (ns : List Int), x = .ref l ∧ SqL K H1 l (ns.map V.int) ∧ ns.length ≤ 4000 ∧ Q (.int (lenSet ns : Nat)) H1
open RZ in
theorem pe_lenSetG {X : Cx} {a : Expr} {ta : TE} {p p2 q pos : Pos} (hg : Gl X "len") (hm : X.mg "len" = none) (hg2 : Gl X "set") (hm2 : X.mg "set" = none) (ha : PE X a ta) (hc : X.calm = true := by rfl)
    (na : starEach [a] X.env = (false, eval a X.env) :: starEach [] X.env := by rfl) : PE X (.Call (.Name "len" p) [.Call (.Name "set" p2) [a] [] q] [] pos) (tLenSetG X.K ta) := by
  refine ⟨fun pins s σ H Q I h => ?_⟩
  refine Call_ (ld_blt I hg hm boot_len ?_)
  refine PyProof.Rows.callWith_builtin1 (PyProof.Rows.args_cons ?_ rfl) rfl rfl
  refine Call_ (ld_blt I hg2 hm2 boot_set ?_)
  refine PyProof.Rows.callWith_type1 (PyProof.Rows.args_cons (thn (ha.run pins s σ H _ I h) fun v s1 ⟨x, H1, I1, r1, q1⟩ => PyProof.Rows.args_nil ?_) na) na rfl
  obtain ⟨l, ns, rfl, hq, hl, q1⟩ := q1
  cases r1
  obtain ⟨its, r, pl, hz⟩ := I1.list hq
  have hlen : its.toArray.size = ns.length := by rw [List.size_toArray, ← r.length, List.length_map]
  refine call_set_list (I1.ok.hd hc) pl.isList (by simpa using intsAre_vals r) (by rw [hlen]; unfold scanBound; omega) fun h' tk hS hk => ?_
  refine PyProof.Rows.args_nil ?_
  rw [hlen] at hS
  have hle := firstMet_length_le (fun i => ns.getD i 0) ns.length
  obtain ⟨o, es, ep, t, ho, hex, hd, _, _, _, hf, hn⟩ := hS
  have I2 : Inv X pins σ H1 { s1 with heap := h', toks := tk } := I1.kept fun b o e => hk b o (Heap.lt_size e) e
  exact call_len_set ho hex hd hf (by rw [hn] <;> omega) ⟨.int (lenSet ns : Nat), H1, I2.tok _, ⟨_, by rw [hn]; rfl⟩, q1⟩
theorem e_lenSet {X : Cx} {T : Tx} {W : WX} {f : Sem1} {a : Expr} {p p2 q pos : Pos} (hK : T.K = X.K) (hg : Gl X "len") (hm : X.mg "len" = none) (hg2 : Gl X "set") (hm2 : X.mg "set" = none) (ha : PE X a (tD T W f)) (hc : X.calm = true := by rfl)
    (na : starEach [a] X.env = (false, eval a X.env) :: starEach [] X.env := by rfl) : PE X (.Call (.Name "len" p) [.Call (.Name "set" p2) [a] [] q] [] pos) (tD T W (eUn kLenSet f)) :=
  pe_imp (pe_lenSetG hg hm hg2 hm2 ha hc na) fun σ H Q ⟨F, ρ, e, vw, hp⟩ => by
    refine bind_d e vw hp fun d v F1 H1 g1 r1 hp1 => ?_
    unfold kLenSet at hp1
    cases hd : asL d with
    | none => rw [hd] at hp1; exact hp1.elim
    | some xs =>
      rw [hd] at hp1
      cases hi : asInts xs with
      | none => simp only [Option.bind, hi] at hp1; exact hp1.elim
      | some ns =>
        simp only [Option.bind, hi] at hp1
        split at hp1
        · rename_i hz
          obtain ⟨a, vs, rfl, h1, h2⟩ := r1.list hd
          rw [hK] at h1
          have hxs := asInts_map hi
          subst hxs
          have hv : vs = ns.map V.int := h2.int_of
          subst hv
          exact ⟨a, ns, rfl, ex_l g1.s h1, hz, post_sh g1.s (.int _) hp1⟩
        · exact hp1.elim
/-! ### return [a, b, e]: own rows, given away -/
def sRet3 (i j : Nat) (f : Sem1) : SemS := fun ρ => match ρ[i]?, ρ[j]?, stf false f ρ with
  | some (.ow xs), some (.ow ys), .ok (.ow zs) => if i ≠ j then .rt (.ow2 [xs, ys, zs]) else .no
  | _, _, _ => .no
theorem s_ret3 {X : Cx} {T : Tx} {W : WX} {i j : Nat} {f : Sem1} {e : Expr} {pos : Pos} (he : PE X e (tLst (tCons (tVar i) (tCons (tVar j) (tCons (tD T W f) tNil))))) : PS X (.Return (some e) pos) (tS T W (sRet3 i j f)) :=
  ps_imp (ps_ret he) fun D σ H ⟨F0, H0, F, ρ, ok, hp⟩ => by
    unfold sRet3 at hp
    split at hp
    · rename_i xs ys zs hi hj hf
      split at hp
      · rename_i hij
        obtain ⟨o, h1, h2, h3, h4⟩ := ok.ow
        obtain ⟨p1, vs1, a1, a2, a3, a4⟩ := h4 i _ hi
        obtain ⟨p2, vs2, b1, b2, b3, b4⟩ := h4 j _ hj
        have m1 : p1 ∈ o i := by rw [a1]; exact List.mem_cons_self
        have m2 : p2 ∈ o j := by rw [b1]; exact List.mem_cons_self
        have ne12 : p1 ≠ p2 := fun z => hij (h2 i j p1 m1 (z ▸ m2))
        refine ⟨.ref p1, a2, .ref p2, b2, ?_⟩
        refine run_st (full := false) (P := fun r => r = .ok (.ow zs)) ok hf (fun z => by cases z) (fun c z => by cases z) fun s v F' H' g r hq => ?_
        cases hq
        obtain ⟨p3, vs3, rfl, c1, c2, c3, c4⟩ := r
        refine ⟨small_size (by simp), fun p hn => hp (.ref p) F' _ ((ok.g.trans g).trans (Grow.own g.s hn)) ?_⟩
        have out : ∀ q u, H q = some u → F q = none → F' q = none := fun q u hq hfq => by
          cases hF : F' q with
          | none => rfl
          | some w =>
            rcases g.n q w hF with z | z
            · rw [hfq] at z; cases z
            · rw [hq] at z; cases z
        have n1 : p ≠ p1 := fun z => by subst z; rw [g.h _ _ a3] at hn; cases hn
        have n2 : p ≠ p2 := fun z => by subst z; rw [g.h _ _ b3] at hn; cases hn
        have n3 : p ≠ p3 := fun z => by subst z; rw [c3] at hn; cases hn
        have n13 : p1 ≠ p3 := fun z => by subst z; rw [a3] at c1; cases c1
        have n23 : p2 ≠ p3 := fun z => by subst z; rw [b3] at c1; cases c1
        refine ⟨p, [p1, p2, p3], rfl, ok.g.h.back (g.h.back hn), g.s.back hn, upd_same, ?_, ?_, ?_⟩
        · simp only [List.nodup_cons, List.mem_cons, List.not_mem_nil, or_false, not_or, List.nodup_nil, and_true, not_false_iff]
          exact ⟨⟨n1, n2, n3⟩, ⟨ne12, n13⟩, n23⟩
        · intro a ha
          simp only [List.mem_cons, List.not_mem_nil, or_false] at ha
          rcases ha with rfl | rfl | rfl
          · exact ⟨(h3 i _ m1).2.1, out _ _ a3 (h3 i _ m1).1⟩
          · exact ⟨(h3 j _ m2).2.1, out _ _ b3 (h3 j _ m2).1⟩
          · exact ⟨ok.g.h.back c1, c2⟩
        · exact ⟨⟨vs1, by rw [upd_ne (Ne.symm n1)]; exact g.h _ _ a3, a4.mono g.f⟩, ⟨vs2, by rw [upd_ne (Ne.symm n2)]; exact g.h _ _ b3, b4.mono g.f⟩, ⟨vs3, by rw [upd_ne (Ne.symm n3)]; exact c3, c4⟩, trivial⟩
      · exact hp.elim
    · exact hp.elim
end G6

namespace G6
open PySem PySem.Spec PyProof.Rows L2
/-! ### for x in t, a list or a tuple -/
def unLT (d : Da) : Option (List Da) := match d with
  | .tup xs => some xs
  | d => asL d
section
variable {X : Cx} {T : Tx} {W : WX} {f g : Sem1} {l tg : Expr}
theorem i_seq (hK : T.K = X.K) (hl : PE X l (tD T W f)) : PI X tg l (tI T W (iL unLT f)) := by
  refine ⟨fun pins s σ H R I h => ?_⟩
  obtain ⟨F, ρ, e, vw, hp⟩ := h
  cases hd : dat (f ρ) with
  | ok d =>
    cases d with
    | tup xs =>
      refine (i_tup (tg := tg) hK hl).run pins s σ H R I ⟨F, ρ, e, vw, ?_⟩
      have : iL unLT f ρ = iL unT f ρ := by unfold iL; rw [hd]; rfl
      rw [← this]; exact hp
    | _ =>
      refine (i_list (tg := tg) hK hl).run pins s σ H R I ⟨F, ρ, e, vw, ?_⟩
      have : iL unLT f ρ = iL asL f ρ := by unfold iL; rw [hd]; rfl
      rw [← this]; exact hp
  | ex c =>
    refine (i_list (tg := tg) hK hl).run pins s σ H R I ⟨F, ρ, e, vw, ?_⟩
    have : iL unLT f ρ = iL asL f ρ := by unfold iL; rw [hd]; rfl
    rw [← this]; exact hp
  | no =>
    refine (i_list (tg := tg) hK hl).run pins s σ H R I ⟨F, ρ, e, vw, ?_⟩
    have : iL unLT f ρ = iL asL f ρ := by unfold iL; rw [hd]; rfl
    rw [← this]; exact hp
/-! ### xs.index(y), xs.count(y), flat -/
def rCntV (K : PySem.W.Frag) : V → List V → Hp → VK → Prop := fun x xs H Q => ∃ (a : Addr) (ys : List V) (y : V), x = .ref a ∧ xs = [y] ∧ SqL K H a ys ∧ flatV y = true ∧ ys.all flatV = true ∧ Q (.int ((ys.countP fun z => eqV z y : Nat) : Int)) H
theorem cnt_eq {y : V} : ∀ {ys : List V} {us : List Value}, Vals ys us → ys.all flatV = true → us.countP (eqU y) = ys.countP fun z => eqV z y
  | _, _, .nil, _ => rfl
  | z :: ys, u :: us, .cons r t, h => by
    rw [List.all_cons, Bool.and_eq_true] at h
    rw [List.countP_cons, List.countP_cons, cnt_eq t h.2, eqU_of r h.1]
theorem mt_countV : MtR X "list.count" (rCntV X.K) := by
  intro pins s σ H x xs v us Q I rx rxs h
  obtain ⟨a, ys, y, rfl, rfl, hs, fy, fys, q⟩ := h
  cases rx
  cases rxs with
  | cons ry rt =>
    rename_i uy ut
    cases rt
    obtain ⟨its, rv, ⟨⟨cls, dd, data, sl⟩, n, ho, hc, hdn, hd⟩, hlen⟩ := I.list hs
    simp only at hc hd
    subst hc hd
    refine call_meets PySem.F.slot_list_count ⟨_, ho, rfl⟩ PySem.F.entry_list_count (PySem.F.args_list_count_2 _ _)
      (SeqAt.list_countAt a its.toArray n dd sl uy (eqU y)) ⟨ho, fun u' hu' => mem_eqAt ry fy rv fys u' (by simpa using hu'), ?_⟩
    have ec : its.toArray.toList.countP (eqU y) = ys.countP fun z => eqV z y := cnt_eq rv fys
    refine ⟨.int ((ys.countP fun z => eqV z y : Nat) : Int), H, I.tok _, ⟨s.toks, ?_⟩, q⟩
    show Value.int ((its.toArray.toList.countP (eqU y) : Nat) : Int) s.toks = _
    rw [ec]
/-- of truths -/
def kCntB (d e : Da) : Option Sl := match d, e with
  | .lst xs, .bl b => (asBls xs).map fun bs => .sh (.int ((bs.count b : Nat) : Int))
  | _, _ => none
def kIdxB (d e : Da) : Option Sl := match d, e with
  | .lst xs, .bl b => (asBls xs).bind fun bs => if bs.idxOf b < bs.length then some (.sh (.int ((bs.idxOf b : Nat) : Int))) else none
  | _, _ => none
def eMth (k : Da → Da → Option Sl) (f g : Sem1) : Sem1 := fun ρ => (dat (f ρ)).bind fun d => match d with
  | .lst xs => (dat (g ρ)).bind fun y => ofO (k (.lst xs) y)
  | _ => .no
theorem flat_bls (bs : List Bool) : (bs.map V.bl).all flatV = true := by
  rw [List.all_eq_true]
  intro v hv
  obtain ⟨b, _, rfl⟩ := List.mem_map.mp hv
  rfl
theorem idx_no {b : Bool} : ∀ {bs : List Bool} {m : Nat} (h : m < bs.length), m < bs.idxOf b → (bs[m] == b) = false
  | [], m, h, _ => absurd h (by simp)
  | c :: bs, m, h, hm => by
    rw [List.idxOf_cons] at hm
    cases hc : c == b with
    | true => rw [hc] at hm; simp at hm
    | false =>
      rw [hc] at hm
      cases m with
      | zero => exact hc
      | succ m => exact idx_no (bs := bs) (by simpa using h) (by simpa using hm)
theorem eqV_bl {a b : Bool} : eqV (.bl a) (.bl b) = (a == b) := rfl
theorem count_bls (b : Bool) : ∀ bs : List Bool, (bs.map V.bl).countP (fun z => eqV z (.bl b)) = bs.count b
  | [] => rfl
  | c :: bs => by
    rw [List.map_cons, List.countP_cons, List.count_cons, count_bls b bs]
    rfl
theorem e_cntB {o e : Expr} {apos pos : Pos} (hK : T.K = X.K) (hpe : PE X (.Call (.Attribute o "count" apos) [e] [] pos) (tBM X.K "list" (rCntV X.K) (tD T W f) (tCons (tD T W g) tNil))) :
    PE X (.Call (.Attribute o "count" apos) [e] [] pos) (tD T W (eMth kCntB f g)) :=
  pe_imp hpe fun σ H Q ⟨F, ρ, ex, vw, hp⟩ => by
    refine bind_d ex vw hp fun x v1 F1 H1 g1 r1 hp1 => ?_
    cases r1 with
    | lst h1 rr =>
      refine ⟨tyl (g1.s _ _ h1), ?_⟩
      refine bind_d g1.s (vw.mono g1.f) hp1 fun y v2 F2 H2 g2 r2 hp2 => ?_
      cases r2 with
      | bl b =>
        rename_i a vs ds
        unfold kCntB at hp2
        dsimp only at hp2
        cases hb : asBls ds with
        | none => rw [hb] at hp2; exact hp2.elim
        | some bs =>
          rw [hb] at hp2
          have e1 := asBls_map hb
          subst e1
          have e2 := rr.bl_of
          subst e2
          refine ⟨a, bs.map V.bl, .bl b, rfl, rfl, SqL.of (g2.h _ _ (g1.s _ _ h1)), rfl, flat_bls bs, ?_⟩
          rw [count_bls]
          exact post_sh g2.s (.int _) hp2
      | _ => exact hp2.elim
    | _ => exact hp1.elim
theorem e_idxB {o e : Expr} {apos pos : Pos} (hK : T.K = X.K) (hpe : PE X (.Call (.Attribute o "index" apos) [e] [] pos) (tBM X.K "list" (rIndex X.K) (tD T W f) (tCons (tD T W g) tNil))) :
    PE X (.Call (.Attribute o "index" apos) [e] [] pos) (tD T W (eMth kIdxB f g)) :=
  pe_imp hpe fun σ H Q ⟨F, ρ, ex, vw, hp⟩ => by
    refine bind_d ex vw hp fun x v1 F1 H1 g1 r1 hp1 => ?_
    cases r1 with
    | lst h1 rr =>
      refine ⟨tyl (g1.s _ _ h1), ?_⟩
      refine bind_d g1.s (vw.mono g1.f) hp1 fun y v2 F2 H2 g2 r2 hp2 => ?_
      cases r2 with
      | bl b =>
        rename_i a vs ds
        unfold kIdxB at hp2
        dsimp only at hp2
        cases hb : asBls ds with
        | none => rw [hb] at hp2; exact hp2.elim
        | some bs =>
          rw [hb] at hp2
          have e1 := asBls_map hb
          subst e1
          have e2 := rr.bl_of
          subst e2
          simp only [Option.bind] at hp2
          split at hp2
          · rename_i hlt
            refine ⟨a, bs.map V.bl, .bl b, bs.idxOf b, .bl bs[bs.idxOf b], rfl, rfl, SqL.of (g2.h _ _ (g1.s _ _ h1)), rfl, flat_bls bs, ?_, ?_, fun m z' hm hz => ?_, post_sh g2.s (.int _) hp2⟩
            · rw [List.getElem?_map, List.getElem?_eq_getElem hlt]; rfl
            · rw [eqV_bl, List.getElem_idxOf hlt]; exact beq_self_eq_true b
            · rw [List.getElem?_map] at hz
              have hml : m < bs.length := by omega
              rw [List.getElem?_eq_getElem hml] at hz
              cases hz
              rw [eqV_bl]
              exact idx_no hml hm
          · exact hp2.elim
      | _ => exact hp2.elim
    | _ => exact hp1.elim
end
/-! ### for k in {e: True, ..} -/
def dkey : Key → Da
  | .inl i => .int i
  | .inr s => .str s
def intsOf : List Sem1 → Rho → Option (List Int)
  | [], _ => some []
  | f :: fs, ρ => match dat (f ρ) with
    | .ok (.int k) => (intsOf fs ρ).map (k :: ·)
    | _ => none
def dKvs (ks : List Int) : List (Key × V) := mergeK [] (ks.map fun k => ((.inl k : Key), V.bl true))
def iDict (fs : List Sem1) : Rho → Rs (List Da) := fun ρ => match intsOf fs ρ with
  | some ks => if ks.length ≤ 15 then .ok ((dKvs ks).map fun kv => dkey kv.1) else .no
  | none => .no
section
variable {X : Cx} {T : Tx} {W : WX} {tg : Expr} {F H : Hp} {σ : St} {ρ : Rho}
theorem run_w {f : Sem1} {Q : VK} {d : Da} (e : Ex F H) (vw : View T F σ ρ) (hf : dat (f ρ) = .ok d) (q : ∀ v F' H', Ex H H' → Rep T F' v d → Q v H') : tD T W f σ H Q := by
  refine ⟨F, ρ, e, vw, ?_⟩
  cases hs : f ρ with
  | no => rw [hs] at hf; cases hf
  | ex c => rw [hs] at hf; cases hf
  | ok s =>
    rw [hs] at hf
    cases hv : s.view with
    | none => simp only [dat, hv] at hf; cases hf
    | some d' =>
      simp only [dat, hv] at hf
      cases hf
      intro v F' H' g r
      obtain ⟨F2, g2, r2⟩ := r.see g hv
      exact q v F2 H' g2.h r2
theorem pairs_run : ∀ {fs : List Sem1} {ks : List Int} {H : Hp} {Q : List (V × V) → Hp → Prop}, intsOf fs ρ = some ks → Ex F H → View T F σ ρ → (∀ H', Ex H H' → Q (ks.map fun k => (V.int k, V.bl true)) H') → tPairs (fs.map fun f => (tD T W f, tD T W (eC (.bl true)))) σ H Q
  | [], ks, H, Q, h, e, vw, q => by cases h; exact q H (Ex.refl H)
  | f :: fs, ks, H, Q, h, e, vw, q => by
    unfold intsOf at h
    split at h
    · rename_i k hk
      cases hr : intsOf fs ρ with
      | none => rw [hr] at h; cases h
      | some ks' =>
        rw [hr] at h
        cases h
        refine run_w e vw hk fun v F' H' eH r => ?_
        cases r
        refine run_w (d := .bl true) (e.trans eH) vw rfl fun v2 F2 H2 eH2 r2 => ?_
        cases r2
        exact pairs_run hr ((e.trans eH).trans eH2) vw fun H3 e3 => q H3 ((eH.trans eH2).trans e3)
    · cases h
def tDispF (trs : List (TE × TE)) : TE := fun σ H Q => tDisp trs σ H fun v H2 => ∃ p kvs, v = .ref p ∧ H2 p = some (.dK kvs) ∧ ∀ od, Q v (upd H2 p (.frz od (.dK kvs)))
theorem pe_dispF {pos : Pos} {keys : List (Option Expr)} {values : List Expr} {trs : List (TE × TE)} (h : PPs X pos keys values trs) (hall : keys.all (·.isSome) = true) (hl : keys.length = values.length) (h0 : keys ≠ [])
    (h15 : keys.length ≤ 15) : PE X (.Dict keys values pos) (tDispF trs) :=
  ⟨fun pins s σ H Q I q => thn ((pe_disp h hall hl h0 h15).run pins s σ H _ I q) fun u s1 ⟨x, H1, I1, rx, p, kvs, ex, hp, q1⟩ => by
    obtain ⟨od, I2⟩ := I1.lock hp trivial
    exact ⟨x, _, I2, rx, q1 od⟩⟩
theorem i_dict {fs : List Sem1} {pos : Pos} {keys : List (Option Expr)} {values : List Expr} (h : PPs X pos keys values (fs.map fun f => (tD T W f, tD T W (eC (.bl true))))) (hall : keys.all (·.isSome) = true) (hl : keys.length = values.length) (h0 : keys ≠ [])
    (h15 : keys.length ≤ 15) : PI X tg (.Dict keys values pos) (tI T W (iDict fs)) :=
  pi_imp (pi_keys (pe_dispF h hall hl h0 h15)) fun σ H R ⟨F, ρ, e, vw, hp⟩ => by
    unfold iDict at hp
    cases hk : intsOf fs ρ with
    | none => rw [hk] at hp; exact hp.elim
    | some ks =>
      rw [hk] at hp
      dsimp only at hp
      split at hp
      · rename_i hz
        intro p hn
        refine pairs_run hk (e.trans (Ex.new hn)) vw fun H' eH => ?_
        have hp0 : H' p = some (.dK []) := eH _ _ upd_same
        refine ⟨hp0, ks.map fun k => ((.inl k : Key), V.bl true), by rw [List.map_map]; rfl, by rw [List.length_map]; exact hz, p, dKvs ks, rfl, upd_same, fun od => ⟨p, od, rfl, .inl ⟨dKvs ks, upd_same, ?_⟩⟩⟩
        have fp : F p = none := e.back hn
        have keep : ∀ a u, H a = some u → upd (upd H' p (.dK (dKvs ks))) p (.frz od (.dK (dKvs ks))) a = some u := fun a u ha => by
          have ne : a ≠ p := ne_of_none ha hn
          rw [upd_ne ne, upd_ne ne]
          exact eH a u (by rw [upd_ne ne]; exact ha)
        refine hp _ (upd F p (.frz od (.dK (dKvs ks)))) _ ⟨Ex.new fp, keep, fun a u q => ?_, fun a u q => ?_⟩ ?_
        · by_cases z : a = p
          · subst z; rw [upd_same] at q ⊢; exact q
          · rw [upd_ne z] at q; exact keep a u (e a u q)
        · by_cases z : a = p
          · subst z; exact .inr hn
          · rw [upd_ne z] at q; exact .inl q
        · unfold WalkD
          rw [List.length_map]
          refine (walk_keys (d := p) (o := od) (kvs := dKvs ks)).mono (fun Hc ec => ec _ _ upd_same) fun i Hc x Hc' hi _ y F1 e1 e2 => ?_
          obtain ⟨rfl, k, v, h1, rfl⟩ := y
          refine ⟨dkey k, F1, by rw [List.getElem?_map, h1]; rfl, Grow.refl e2, ?_⟩
          cases k with
          | inl i => exact .int i
          | inr s => exact .str s
      · exact hp.elim
end
/-! ### a def that promises nothing; a = [], b = e at once -/
theorem ok_no {P : Program} {w : World} {K : PySem.W.Frag} {mg : Str → Option Value} {base : Heap} {CX : CXT} {k : Nat} {f : Addr} {fd : FuncData} {ps : List Str} {T : Tx} {n : Nat} : FnOk P w K mg base CX k f fd ps (spS T n fun _ => .no) :=
  ⟨fun vs H Q E ⟨_, F, ds, _, _, hp⟩ => hp.elim, fun A outer s H args us vs Q E _ _ _ _ ⟨_, F, ds, _, _, hp⟩ => hp.elim⟩
def sParO (i j : Nat) (f g : Sem1) : SemS := fun ρ => match f (Rho.shs ρ), dat (g (Rho.shs ρ)) with
  | .ok (.ow xs), .ok d => .nx ((ρ.set i (.ow xs)).set j (.sh d))
  | _, _ => .no
section
variable {X : Cx} {T : Tx} {W : WX} {f g : Sem1}
theorem s_parO {i j : Nat} {x y : Str} {a b : Expr} {px py pt pos : Pos} {kt k2 pt2} (hc : X.calm = true) (hN : X.N.Nodup) (hi : X.N[i]? = some x) (hj : X.N[j]? = some y) (hij : i ≠ j)
    (hx : X.env.scope.names.lookup x = some .local) (hy : X.env.scope.names.lookup y = some .local) (ha : PA X [a, b] (tCons (tD T W f) (tCons (tD T W g) tNil)))
    (hw : swappedStores [.Tuple [.Name x px, .Name y py] kt pt] (.Tuple [a, b] k2 pt2) X.env = pure (some [x, y]) := by rfl)
    (hs : swapsWithSole [.Tuple [.Name x px, .Name y py] kt pt] (.Tuple [a, b] k2 pt2) pos.line X.env = pure false := by rfl) :
    PS X (.Assign [.Tuple [.Name x px, .Name y py] kt pt] (.Tuple [a, b] k2 pt2) pos) (tS T W (sParO i j f g)) :=
  ps_imp (ps_par hc hN hi hj hij hx hy ha hw hs) fun D σ H ⟨F0, H0, F, ρ, ok, hp⟩ => by
    unfold sParO at hp
    split at hp
    · rename_i xs d hf hg
      refine run_st (full := false) (P := fun r => r = .ok (.ow xs)) ok hf (fun z => by cases z) (fun c z => by cases z) fun s v F1 H1 g1 r1 hq => ?_
      cases hq
      refine ⟨F1, Rho.shs ρ, g1.s, ok.viewF.mono g1.f, ?_⟩
      cases hs2 : g (Rho.shs ρ) with
      | no => rw [hs2] at hg; cases hg
      | ex c => rw [hs2] at hg; cases hg
      | ok s2 =>
        rw [hs2] at hg
        cases hv : s2.view with
        | none => simp only [dat, hv] at hg; cases hg
        | some d' =>
          simp only [dat, hv] at hg
          cases hg
          intro v2 F2 H2 g2 r2
          obtain ⟨F3, g3, r3⟩ := r2.see g2 hv
          exact ⟨v, v2, rfl, hp _ F3 H2 (g1.f.trans g3.f) (((ok.put g1 r1).ext g3).putD r3)⟩
    · exact hp.elim
end
/-! ### a lambda handed to a def -/
open LamX
theorem cxN {P : Program} {w : World} {outer : List Env} {H : Hp} {s s' : Shared} {E : XK} {u : Value} (h : L2N.CX P w outer H s E u s') : L2.CX P w outer H s E u s' := by
  obtain ⟨a, B, H', cls, d, e, fl, hok, ub, hn, os, ag, hE⟩ := h
  exact ⟨a, B, H', cls, d, e, ⟨fl.1, fl.2.1, fl.2.2.1, by
    obtain ⟨oe, vs, T, oT, ts, h1, h2, h3⟩ := fl.2.2.2
    exact ⟨oe, vs, T, oT, ts, h1, h2.zc, h3⟩⟩, hok, ub, hn, os, ag, hE⟩
section
variable {X : Cx} {T : Tx} {W : WX} {k n : Nat} {f : Addr} {fd : FuncData} {ps : List Str} {g : List Da → Rs Sl} {x : Str} {p pos : Pos} {e : Expr} {es : List Expr} {fs : Rho → Rs (List Da)}
theorem e_callL (G : FnOk X.prog X.w X.K X.mg X.base (L2N.CX X.prog X.w) k f fd ps (spS T n g)) (hr : Room k X.A) (hg : Gl X x) (hm : X.mg x = some (.ref f)) (hk : PySem.W.keepIn X.K (.ref f) = true) (hb : Binds X.K fd ps []) (tk : L2.Takes X W)
    (ha : PA X (e :: es) (tA T W fs)) (hn : ∀ ρ ds, fs ρ = .ok ds → ds.length = n) (hdb : (x == ("__debug__" : Str)) = false := by decide) (he : starEach (e :: es) X.env = (false, eval e X.env) :: starEach es X.env := by rfl)
    (hpl : (backTo pos (starEach es X.env)).any (·.1) = false := by rfl) : PE X (.Call (.Name x p) (e :: es) [] pos) (tD T W (eFn g fs)) :=
  pe_imp (pe_callS (E := WE W) G hr hg hm hk hb (fun σ pins H s e s' I c => L2.passAt tk σ pins H s e s' I (cxN c)) ha hdb he hpl) fun σ H Q ⟨F, ρ, e, vw, hp⟩ => by
    refine ⟨F, ρ, e, vw, ?_⟩
    unfold eFn at hp
    cases hf : fs ρ with
    | no => rw [hf] at hp; exact hp.elim
    | ex c => rw [hf] at hp; exact hp
    | ok ds =>
      rw [hf] at hp
      intro vs F1 H1 g1 r1
      refine ⟨by rw [r1.length]; exact hn ρ ds hf, F1, ds, g1.s, r1, ?_⟩
      simp only [Rs.bind] at hp
      have hp' : Post T W σ F1 H1 Q (g ds) := Post.mono g1 hp
      cases hg : g ds with
      | no => rw [hg] at hp'; exact hp'.elim
      | ex c => rw [hg] at hp'; exact hp'
      | ok s => rw [hg] at hp'; exact hp'
end
theorem env_dead {T : Tx} {H : Hp} {σ : St} {n : Nat} (h : σ.length = n) : EnvOk T H H H H σ (List.replicate n .dead) := by
  refine ⟨Grow.refl (Ex.refl H), by rw [List.length_replicate]; exact h, fun _ => [], fun _ => List.nodup_nil, fun i j a ha => absurd ha (by simp), fun i a ha => absurd ha (by simp), fun i s hs => ?_⟩
  rw [List.eq_of_mem_replicate (List.mem_of_getElem? hs)]
  rfl
/-- what the def that asks makes of a lambda that raises c -/
def TNo (X : Cx) (c w : Str) : (XK → Hp → VK → Prop) → Hp → VK → Prop := fun tl H Q =>
  tl (fun cls d H' => (∃ C, X.mg c = some (.ref C) ∧ cls = .ref C) ∧ d = none ∧ ∀ H'', Ex H' H'' → Q (.str w) H'') H (fun _ H1 => Q (.str "") H1)
theorem no_gives {X : Cx} {T : Tx} {W : WX} {Ng : List Str} {x a xe q c w n : Str} {sg : Scope} {g CS : Addr} {cdg : Value} {j : Nat} {p1 p2 p3 p4 p5 p6 p7 p8 : Pos} {b₀ : Stmt} {suite : List Stmt} {h : SemS}
    (hT : T.ea = none) (hNg : Ng.length = 3) (hNn : Ng.Nodup) (hi : Ng[1]? = some n) (hln : sg.names.lookup n = some .local) (hge : sg.names.lookup xe = some .globalImplicit) (hme : X.mg xe = some (.ref CS)) (hde : (xe == ("__debug__" : Str)) = false) (h0 : ∀ f : Addr, (L2.start Ng [V.ref f])[0]? = some (some (V.ref f)))
    (hx : ∀ C, X.mg c = some (.ref C) → PySem.W.exmOne X.K (.ref C) (.ref CS) = some true)
    (hsu : ∀ C, X.mg c = some (.ref C) → ∀ (s : Shared) (H : Hp) (a' : Addr) (oe : Obj) (pn : List (Addr × Obj)), Zc (.ref C) none oe → (∃ vs, oe.data = .fields vs) →
      PSs ((cxOf C8.CX0 X.prog X.w X.K X.mg X.base Ng x sg g cdg X.A X.stack s H C8.E0).nox.suite a' ((a', oe) :: pn)) (b₀ :: suite) (tS (T.at a') W h))
    (hw : h [.dead, .sh .err, .dead] = .rt (.sh (.str w))) :
    GivesTo X Ng x sg g cdg [.Try [.Expr (.Call (.Name a p1) [] [] p2) p3, .Return (some (.Constant (.str "") j p4)) p5] [.ExceptHandler (some (.Name xe p6)) (some n) (b₀ :: suite) p7] [] [] p8] a q (TNo X c w) := by
  intro f c' s H Q tl act hc hh
  have hgl : Gl (cxOf C8.CX0 X.prog X.w X.K X.mg X.base Ng x sg g cdg X.A X.stack s H C8.E0).nox xe := hge
  refine ⟨_, pss_one (L2.ps_try_as (X := (cxOf C8.CX0 X.prog X.w X.K X.mg X.base Ng x sg g cdg X.A X.stack s H C8.E0).nox) (c := .ref CS) (i := 1)
      (tb := fun W D σ H => ∃ Ech : XK, (∀ cls d σ' H', Ech cls d H' → W cls d σ' H') ∧ σ[0]? = some (some (.ref f)) ∧ H c' = some (CodeO c' q) ∧ tl Ech H fun _ H1 => D.rt (.str "") H1)
      (ts := fun a' cls d D σ H => ∃ C, X.mg c = some (.ref C) ∧ cls = .ref C ∧ d = none ∧ (σ.length = 3 → tS (T.at a') W h D σ H))
      rfl rfl hNn hi hln ⟨hgl, hde, .inl hme⟩ LamX.takes0 (fun W pn xe tk _ => ?_) (fun a' oe cls d pn hz hfd => ?_)), ?_⟩
  · refine ⟨fun pins s' σ H' D I h' => ?_⟩
    obtain ⟨Ech, hW, h1, h2, h3⟩ := h'
    have hp := act W pn xe Ech p1 p2 tk hW
    have hq := pss_cons (ps_expr (pos := p3) hp) (pss_one (ps_ret (e := .Constant (.str "") j p4) (pos := p5) pe_str))
    exact hq.run pins s' σ H' D I ⟨h1, h2, h3⟩
  · refine ⟨fun pins s' σ H' D I h' => ?_⟩
    obtain ⟨C, m1, rfl, rfl, h3⟩ := h'
    exact (hsu C m1 s H a' oe pn hz hfd).run pins s' σ H' D I (h3 (by rw [I.len]; exact hNg))
  · refine ⟨_, fun cls d σ' H' hE => ?_, h0 f, hc, hh⟩
    obtain ⟨⟨C, m1, rfl⟩, rfl, hQ⟩ := hE
    refine ⟨true, hx C m1, fun _ a' ha => ⟨C, m1, rfl, rfl, fun hlen => ?_⟩, fun z => Bool.noConfusion z⟩
    have hl : σ'.length = 3 := by rw [List.length_set] at hlen; exact hlen
    have ok : EnvOk (T.at a') H' H' H' H' (σ'.set 1 (some (.ref a'))) [.dead, .sh .err, .dead] := (env_dead (T := T.at a') (H := H') hl).putD (i := 1) (.err rfl)
    refine ⟨H', H', H', _, ok, ?_⟩
    rw [hw]
    intro v F2 H2 gr sl
    have sl' : Rep (T.at a') F2 v (.str w) := sl
    cases sl'
    exact hQ H2 gr.h
def tNo (X : Cx) (T : Tx) (Tb : List (Addr × Str)) (c w : Str) (fb : Sem1) : TE := fun σ H Q => Tabs Tb H ∧ ∃ F ρ, (∀ a ps, F a ≠ some (.tbl ps)) ∧ Ex F H ∧ View T F σ ρ ∧ fb ρ = .ex c ∧ ∀ H', ExtN H H' → Tabs Tb H' → Q (.str w) H'
theorem e_lam {X : Cx} {T : Tx} {Tb : List (Addr × Str)} {c w : Str} {fb : Sem1} {ex : Expr} (hmg : T.mg = X.mg) (lam : PE X ex (tLam Tb (TNo X c w) (fun E => tD T (fun cls d _ H => E cls d H) fb))) : PE X ex (tNo X T Tb c w fb) :=
  pe_imp lam fun σ H Q ⟨hT, F, ρ, nt, e, vw, hf, q⟩ => ⟨hT, fun H1 eN T1 => by
    show tD T _ fb σ H1 _
    refine ⟨F, ρ, fun a o ha => eN a o (e a o ha) (fun ps z => nt a ps (by rw [ha, z])), vw, ?_⟩
    rw [hf]
    intro C H' hm eH
    exact ⟨⟨C, by rw [← hmg]; exact hm, rfl⟩, rfl, fun H'' e2 => q H'' (eN.trans (ExtN.of (eH.trans e2))) (T1.ext (eH.trans e2))⟩⟩
/-! ### without the tables -/
def er (F : Hp) : Hp := fun a => match F a with
  | some (.tbl _) => none
  | o => o
theorem er_no {F : Hp} (a : Addr) (ps : Array Value) : er F a ≠ some (.tbl ps) := by
  unfold er
  intro h
  split at h
  · cases h
  · rename_i h2; exact h2 ps h
theorem er_ex (F : Hp) : Ex (er F) F := fun a o h => by
  unfold er at h
  split at h
  · cases h
  · exact h
theorem er_of {F : Hp} {a : Addr} {o : HO} (h : F a = some o) (nt : ∀ ps, o ≠ .tbl ps) : er F a = some o := by
  unfold er
  rw [h]
  split
  · rename_i ps e; cases e; exact absurd rfl (nt ps)
  · rfl
theorem er_rd {F : Hp} {a : Addr} {u : HO} (h : Rd F a u) (nt : ∀ ps, u ≠ .tbl ps) : Rd (er F) a u := by
  rcases h with h | ⟨o, h⟩
  · exact .inl (er_of h nt)
  · exact .inr ⟨o, er_of h (fun ps z => by cases z)⟩
section
variable {T : Tx}
mutual
theorem Rep.er {F : Hp} : ∀ {v : V} {d : Da}, Rep T F v d → Rep T (er F) v d
  | _, _, .non => .non
  | _, _, .bl b => .bl b
  | _, _, .int i => .int i
  | _, _, .str s => .str s
  | _, _, .lst h r => .lst (er_of h (fun ps z => by cases z)) (RepAll.er r)
  | _, _, .tup h r => .tup (h.imp (fun h => er_rd h (fun ps z => by cases z)) id) (RepAll.er r)
  | _, _, .emp h => .emp (er_of h (fun ps z => by cases z))
  | _, _, .even h r => .even (er_of h (fun ps z => by cases z)) (Rep.er r)
  | _, _, .unl h r q => .unl (er_of h (fun ps z => by cases z)) (Rep.er r) (Rep.er q)
  | _, _, .scr h => .scr (h.imp (fun h => er_rd h (fun ps z => by cases z)) id)
  | _, _, .kt h1 h2 h3 h r => .kt h1 h2 h3 (h.imp (fun h => er_rd h (fun ps z => by cases z)) id) (RepAll.er r)
  | _, _, .err h => .err h
theorem RepAll.er {F : Hp} : ∀ {vs : List V} {ds : List Da}, RepAll T F vs ds → RepAll T (er F) vs ds
  | _, _, .nil => .nil
  | _, _, .cons r t => .cons (Rep.er r) (RepAll.er t)
end
theorem View.er {F : Hp} {σ : St} {ρ : Rho} (h : View T F σ ρ) : View T (er F) σ ρ := ⟨h.len, fun i s d a b => let ⟨v, x, y⟩ := h.at_ i s d a b; ⟨v, x, y.er⟩⟩
def shd : Sl → Bool
  | .dead => true
  | .sh _ => true
  | _ => false
theorem env_sh {F H : Hp} {σ : St} {ρ : Rho} (vw : View T F σ ρ) (e : Ex F H) (hs : ρ.all shd = true) : EnvOk T F H F H σ ρ := by
  refine ⟨Grow.refl e, vw.len, fun _ => [], fun _ => List.nodup_nil, fun i j a ha => absurd ha (by simp), fun i a ha => absurd ha (by simp), fun i s h => ?_⟩
  have := List.all_eq_true.mp hs s (List.mem_of_getElem? h)
  cases s with
  | dead => rfl
  | sh d =>
    obtain ⟨v, h1, h2⟩ := vw.at_ i _ d h rfl
    exact ⟨rfl, v, h1, h2⟩
  | ow xs => cases this
  | ow2 xss => cases this
end
/-! ### some statements, then something else -/
def tThen (T : Tx) (W : WX) (g : SemS) (tR : TS) : TS := fun D σ H => ∃ F0 H0 F ρ, EnvOk T F0 H0 F H σ ρ ∧ ∃ ρ', g ρ = .nx ρ' ∧ ∀ σ' F' H', Ex F F' → EnvOk T F0 H0 F' H' σ' ρ' → tR D σ' H'
section
variable {X : Cx} {T : Tx} {W : WX} {g g' : SemS} {st : Stmt} {R : List Stmt} {tR : TS}
theorem ss_then (h : PS X st (tS T W g)) (hR : PSs X R tR) : PSs X (st :: R) (tThen T W g tR) :=
  ⟨fun pins s σ H D I ⟨F0, H0, F, ρ, ok, ρ', hg, k⟩ => (pss_cons h hR).run pins s σ H D I ⟨F0, H0, F, ρ, ok, by rw [hg]; exact k⟩⟩
theorem ss_then2 (h : PS X st (tS T W g)) (hR : PSs X R (tThen T W g' tR)) : PSs X (st :: R) (tThen T W (sSeq g g') tR) :=
  ⟨fun pins s σ H D I ⟨F0, H0, F, ρ, ok, ρ'', hg, k⟩ => by
    have hg2 := hg
    unfold sSeq at hg2
    cases h1 : g ρ with
    | nx ρ' =>
      rw [h1] at hg2
      exact (pss_cons h hR).run pins s σ H D I ⟨F0, H0, F, ρ, ok, by
        rw [h1]
        exact fun σ' F' H' e ok' => ⟨F0, H0, F', ρ', ok', ρ'', hg2, fun σ2 F2 H2 e2 ok2 => k σ2 F2 H2 (e.trans e2) ok2⟩⟩
    | _ => rw [h1] at hg2; cases hg2⟩
end
/-! ### tests over such a lambda -/
theorem extN_of {H H' : Hp} (e : Ex H H') : ExtN H H' := ExtN.of e
/-- what the lambda's test asks: it is told w -/
def tNoT (X : Cx) (T : Tx) (Tb : List (Addr × Str)) (c : Str) (fb : Sem1) : TT := fun σ H Q => Tabs Tb H ∧ ∃ F ρ, (∀ a ps, F a ≠ some (.tbl ps)) ∧ Ex F H ∧ View T F σ ρ ∧ fb ρ = .ex c ∧ ∀ H', ExtN H H' → Tabs Tb H' → Q false H'
theorem t_no {X : Cx} {T : Tx} {Tb : List (Addr × Str)} {c w : Str} {fb : Sem1} {ex : Expr} {j : Nat} {p2 pos : Pos} (hu : X.A.units + 64 < cLine) (hw : PyData.strOk w = true) (h : PE X ex (tNo X T Tb c w fb)) (hm : behindInMarks .NotEq (.Constant (.str w) j p2) = false := by rfl) :
    PT X (.Compare ex [.NotEq] [.Constant (.str w) j p2] pos) (tNoT X T Tb c fb) :=
  pt_imp (pt_cmpR (op_neD hu) h pe_str hm) fun σ H Q ⟨hT, F, ρ, nt, e, vw, hf, q⟩ => ⟨hT, F, ρ, nt, e, vw, hf, fun H' eN hT' => by
    have hft : fits 8 (nrm (.str w)) = true := hw
    have hsh := fits_shaped hft
    refine ⟨.str w, .str w, .str w, .str w, hsh, hsh, false, ?_, q H' eN hT'⟩
    have := eqF_eqv 8 (.str w) (.str w) hft hft
    have e1 : eqF 8 (.str w) (.str w) = true := by show (w == w) = true; exact beq_self_eq_true w
    rw [e1] at this
    have this' : true = PyData.eqv (.str w) (.str w) := this
    rw [← this']
    rfl⟩
/-- for x in [..]: if no_of(lambda: ..) != w: return False -/
def tLoopNo (X : Cx) (T : Tx) (Tb : List (Addr × Str)) (c : Str) (fb : Sem1) (j : Nat) (fs : Rho → Rs (List Da)) : TS := fun D σ H => ∃ F0 H0 F ρ, EnvOk T F0 H0 F H σ ρ ∧ ρ.all shd = true ∧ Tabs Tb H ∧ ∃ ds, eLst fs (Rho.shs ρ) = .ok (.ow ds) ∧ (∀ d ∈ ds, ∀ ρ' : Rho, (∀ i, i ≠ j → ρ'[i]? = ρ[i]?) → ρ'[j]? = some (.sh d) → fb ρ' = .ex c) ∧ j < ρ.length ∧ ∀ σ' H', ExtN H H' → Tabs Tb H' → D.nx σ' H'
theorem s_loopNo {X : Cx} {T : Tx} {W : WX} {Tb : List (Addr × Str)} {c : Str} {fb : Sem1} {j : Nat} {fs : Rho → Rs (List Da)} {es : List Expr} {tg test : Expr} {ret : List Stmt} {lpos ipos fpos : Pos} {tr : TS} (hK : T.K = X.K)
    (hp : PassesOwn (model X.prog X.w) X.A X.env X.xe) (hc : X.calm = true) (hl : PE X (.List es lpos) (tD T W (eLst fs))) (hg : PG X tg (gName j)) (ht : PT X test (tNoT X T Tb c fb)) (hr : PSs X ret tr)
    (hs : ∀ x, foldedSetIterable (.List es lpos) X.env x = pure x := by intro _; rfl) : PS X (.For tg (.List es lpos) [.If test ret [] ipos] [] fpos) (tLoopNo X T Tb c fb j fs) :=
  ps_imp (ps_for hp hc (pi_list hl) hg (pss_one (ps_if ht hr pss_nil)) hs) fun D σ H ⟨F0, H0, F, ρ, ok, hsh, hT, ds, hds, hfb, hj, q⟩ => by
    refine run_st (full := false) (P := fun r => r = .ok (.ow ds)) ok hds (fun z => by cases z) (fun c z => by cases z) fun s v F1 H1 g1 r1 hq => ?_
    cases hq
    obtain ⟨p, vs, rfl, a1, a2, a3, a4⟩ := r1
    refine ⟨p, rfl, ⟨vs, SqL.of a3⟩, ?_⟩
    have hT1 : Tabs Tb H1 := hT.ext g1.h
    have vw : View T (er F1) σ ρ := by
      have := (ok.ext g1)
      have v0 : View T F1 σ (Rho.shs ρ) := this.viewF
      refine ⟨this.len, fun i s d h1 h2 => ?_⟩
      have hm := List.all_eq_true.mp hsh s (List.mem_of_getElem? h1)
      cases s with
      | dead => cases h2
      | sh d' =>
        cases h2
        have e1 : (Rho.shs ρ)[i]? = some (.sh d) := by
          unfold Rho.shs
          rw [List.getElem?_map, h1]
          rfl
        obtain ⟨v, h3, h4⟩ := v0.at_ i _ d e1 rfl
        exact ⟨v, h3, h4.er⟩
      | ow xs => cases hm
      | ow2 xss => cases hm
    refine for_it (walk_list (K := X.K) (a := p) (xs := vs)) (fun i σ' H' => ExtN H1 H' ∧ Tabs Tb H' ∧ ∃ ρ', View T (er F1) σ' ρ' ∧ (∀ k, k ≠ j → ρ'[k]? = ρ[k]?) ∧ ρ'.length = ρ.length) ⟨ExtN.refl H1, hT1, ρ, vw, fun _ _ => rfl, rfl⟩
      (fun i σ' H' _ ⟨e, _⟩ => SqL.of (e _ _ a3 (fun ps z => by cases z))) (fun i x σ' H' H2 hi ⟨e, hT', ρ', vw', hρ, hlen⟩ hy => ?_) fun σ' H' ⟨e, hT', _⟩ => q σ' H' ((extN_of g1.h).trans e) hT'
    obtain ⟨rfl, hx⟩ := hy
    obtain ⟨d, h1, h2⟩ := a4.get hx
    have eF : Ex (er F1) H2 := fun a o ha => e a o (g1.s a o (er_ex F1 a o ha)) fun ps z => er_no a ps (by rw [ha, z])
    have hjl : j < ρ'.length := by rw [hlen]; exact hj
    have vw2 : View T (er F1) (σ'.set j (some x)) (ρ'.set j (.sh d)) := by
      refine ⟨by rw [List.length_set, List.length_set]; exact vw'.len, fun k s d' h3 h4 => ?_⟩
      by_cases z : k = j
      · subst z
        rw [List.getElem?_set_self hjl] at h3
        cases h3
        cases h4
        exact ⟨x, List.getElem?_set_self (by rw [vw'.len]; exact hjl), h2.er⟩
      · rw [List.getElem?_set_ne (Ne.symm z)] at h3 ⊢
        exact vw'.at_ k s d' h3 h4
    refine ⟨hT', er F1, ρ'.set j (.sh d), er_no, eF, vw2, hfb d (List.mem_of_getElem? h1) _ (fun k hk => by rw [List.getElem?_set_ne (Ne.symm hk)]; exact hρ k hk) (List.getElem?_set_self hjl), fun H3 e3 hT3 => ?_⟩
    dsimp only
    rw [if_neg Bool.false_ne_true]
    exact ⟨e.trans e3, hT3, ρ'.set j (.sh d), vw2, fun k hk => by rw [List.getElem?_set_ne (Ne.symm hk)]; exact hρ k hk, by rw [List.length_set]; exact hlen⟩
/-! ### defs that hold lambdas, or call such -/
def FunC (K : PySem.W.Frag) (x qual : Str) (st : Stmt) (f : Addr) (fd : FuncData) (c : Addr) : Prop := ∃ (oc : Value) (od : Option Addr) (kV doc pm : Value) (an : Option Addr) (ct : Value) (osl : Array (Option Value)),
  fd = PySem.W.fnOf x qual (defArgs st) (defBody st) (defScope st) .none kV doc pm an (.ref c) ct ∧ K.lookup f = some ⟨oc, od, .func fd, osl⟩ ∧ PySem.W.codeIn K (.ref c) qual = true
section
variable {P : Program} {w : World} {T : Tx} {base : Heap}
theorem okC {x qual : Str} {st : Stmt} {f c : Addr} {fd : FuncData} {N ps : List Str} {k : Nat} {sp : Sp} (F : FunC T.K x qual st f fd c) (S : FnScope N ps (defScope st)) (len : ∀ vs H Q E, sp vs H Q E → vs.length = ps.length)
    (hbody : ∀ (A : Around) (outer : List Env) (s : Shared) (H : Hp) (vs : List V) (Q : VK) (E : XK), Room k (A.deeper (envOfC qual (defScope st) s.heap.objs.size f (.ref c))) → sp vs H Q E →
      ∃ t, PSs (cxOf (L2N.CX P w) P w T.K T.mg base N qual (defScope st) f (.ref c) A outer s H E) (defBody st) t ∧ t { nx := fun _ H' => Q .non H', rt := Q } (L2.start N vs) H) :
    FnOk P w T.K T.mg base (L2N.CX P w) (k + 1) f fd ps sp := by
  obtain ⟨oc, od, kV, doc, pm, an, ct, osl, rfl, lk, hcd⟩ := F
  exact fn_of lk hcd S len fun A outer s H vs Q E hr h => hbody A outer s H vs Q E hr h
theorem okF {x qual : Str} {st : Stmt} {f : Addr} {fd : FuncData} {N ps : List Str} {k : Nat} {sp : Sp} (F : Fun T.K x qual st f fd) (S : FnScope N ps (defScope st)) (len : ∀ vs H Q E, sp vs H Q E → vs.length = ps.length)
    (hbody : ∀ (cdv : Value) (A : Around) (outer : List Env) (s : Shared) (H : Hp) (vs : List V) (Q : VK) (E : XK), Room k (A.deeper (envOfC qual (defScope st) s.heap.objs.size f cdv)) → sp vs H Q E →
      ∃ t, PSs (cxOf (L2N.CX P w) P w T.K T.mg base N qual (defScope st) f cdv A outer s H E) (defBody st) t ∧ t { nx := fun _ H' => Q .non H', rt := Q } (L2.start N vs) H) :
    FnOk P w T.K T.mg base (L2N.CX P w) (k + 1) f fd ps sp := by
  obtain ⟨oc, od, kV, doc, pm, an, cdv, ct, osl, rfl, lk, hcd⟩ := F.ex
  exact fn_of lk hcd S len fun A outer s H vs Q E hr h => hbody cdv A outer s H vs Q E hr h
end
/-- handed ds: True, the tables as they may be -/
def spC (T : Tx) (Tb : List (Addr × Str)) (ds : List Da) : Sp := fun vs H Q _ => Tabs Tb H ∧ (∃ F, (∀ a ps, F a ≠ some (.tbl ps)) ∧ Ex F H ∧ RepAll T F vs ds) ∧ ∀ H', ExtN H H' → Tabs Tb H' → Q (.bl true) H'
theorem spC_len {T : Tx} {Tb : List (Addr × Str)} {ds : List Da} {vs : List V} {H : Hp} {Q : VK} {E : XK} (h : spC T Tb ds vs H Q E) : vs.length = ds.length := by
  obtain ⟨_, ⟨F, _, _, r⟩, _⟩ := h
  exact r.length
/-- the law's own -/
def spL (T : Tx) (Tb : List (Addr × Str)) : Sp := fun vs H Q _ => Tabs Tb H ∧ (∃ F ns, (∀ a ps, F a ≠ some (.tbl ps)) ∧ Ex F H ∧ RepAll T F vs [.scr ns] ∧ ns.length ≤ 63 ∧ ∀ z ∈ ns, Builtin.Int.intBits z ≤ 1048576) ∧ ∀ H', Q (.bl true) H'
theorem spL_len {T : Tx} {Tb : List (Addr × Str)} {vs : List V} {H : Hp} {Q : VK} {E : XK} (h : spL T Tb vs H Q E) : vs.length = 1 := by
  obtain ⟨_, ⟨F, ns, _, _, r, _⟩, _⟩ := h
  exact r.length
/-- what is left behind a change of the tables -/
theorem rest_true {T : Tx} {W : WX} {g : SemS} {D : Ends} {F H : Hp} {σ : St} {ρ : Rho} (vw : View T F σ ρ) (e : Ex F H) (hs : ρ.all shd = true) (hg : g ρ = .rt (.sh (.bl true))) (q : ∀ H', Ex H H' → D.rt (.bl true) H') : tS T W g D σ H := by
  refine ⟨F, H, F, ρ, env_sh vw e hs, ?_⟩
  rw [hg]
  intro v F' H' gr sl
  have sl' : Rep T F' v (.bl true) := sl
  cases sl'
  exact q H' gr.h
theorem shs_shd {ρ : Rho} (h : ρ.all shd = true) : Rho.shs ρ = ρ := by
  unfold Rho.shs
  conv => rhs; rw [← List.map_id ρ]
  refine List.map_congr_left fun s hs => ?_
  have := List.all_eq_true.mp h s hs
  cases s with
  | dead => rfl
  | sh d => rfl
  | ow xs => cases this
  | ow2 xss => cases this
/-! ### the end -/
theorem walk_endT {l : PySem.W.OpenLaw} {k : Nat} {q : Program} {loose : List Str} {XP : (Str → Option Value) → Heap → Prop} {YP : World → Heap → Prop} {d : DefRec} {K : Params → PySem.W.Frag} {x n1 n2 : Str}
    (hn : l.most = some 63) (hdf : d.params.defaults = []) (hr : Room k callerA) (hr1 : ((recsOf q).any fun e => e.name == n1) = true) (hr2 : ((recsOf q).any fun e => e.name == n2) = true) (hY : ∀ (w : World) (h : Heap), YP w h → (K w.params).In h)
    (F : ∀ (w : World) (mg : Str → Option Value) (fa : Addr) (h : Heap), (K w.params).In h → h.Ns mainGlobals mg → mg d.name = some (.ref fa) → (∀ a, mg n1 = some (.ref a) → OwnTab (K w.params) a h) → (∀ a, mg n2 = some (.ref a) → OwnTab (K w.params) a h) → LawAtS l w (K w.params) (L2N.CX l.prog w) k 63 x mg fa h) :
    PySem.W.WalkO q loose XP YP l.row.toRowW d [] (fun f vs => PySem.call f vs) := by
  refine Att.attach_callB hn hdf fun w s₀ s₁ mg mb fa o pm cd doc a vs ns G Y ho hd hcd hmg hobj hints hlen hbits hg => ?_
  have KX := hY w _ Y
  have own : ∀ nm : Str, ((recsOf q).any fun e => e.name == nm) = true → ∀ a, mg nm = some (.ref a) → OwnTab (K w.params) a s₁.heap := fun nm hrec a hma c P o1 fd1 e dd vs1 sl k1 k2 k3 k4 k5 => by
    obtain ⟨dL, hm, hn1⟩ := List.any_eq_true.mp hrec
    have hn2 : dL.name = nm := beq_iff_eq.mp hn1
    obtain ⟨a', o', fd', c', P', h1, h2, h3, h4, h5, h6⟩ := G.T.tab dL hm
    rw [hn2, hma] at h1
    cases h1
    have g1 := KX _ _ k1
    rw [g1] at h2
    cases h2
    rw [k2] at h3
    cases h3
    rw [k3] at h4
    cases h4
    obtain ⟨⟨oc, vc, e1, _, e3, e4⟩, hP⟩ := h6
    have g2 := KX _ _ k4
    rw [g2] at e1
    cases e1
    cases e3
    rw [k5] at e4
    cases e4
    exact hP
  obtain ⟨fd, cs, sp, hT, nT, C, hb, hsp, hF⟩ := F w mg fa _ KX G.T.g hmg (own n1 hr1) (own n2 hr2)
  exact law_callTs KX G.T.g G.T.b G.T.builtins G.T.nolimit hg hT nT C G.T.bmain hobj hints (Nat.le_trans hlen (by decide)) hr hF hb (fun H hH hS => hsp H a ns hlen hbits hH hS) fun H e s' ⟨_, _, _, _, _, _, _, _, _, _, _, _, z⟩ => z
theorem spL_start {T : Tx} {P1 P2 : Addr} {q1 q2 : Str} {H : Hp} {a : Addr} {ns : List Int} (hl : ns.length ≤ 63) (hb : ∀ z ∈ ns, Builtin.Int.intBits z ≤ 1048576) (h1 : H P1 = some (.tbl #[])) (h2 : H P2 = some (.tbl #[])) (hS : SqL T.K H a (ns.map V.int)) : spL T [(P1, q1), (P2, q2)] [.ref a] H (fun v _ => v = .bl true) fun _ _ _ => False := by
  refine ⟨fun p hp => ?_, ⟨er H, ns, er_no, er_ex H, .cons (.scr (hS.imp (fun h => er_rd h (fun ps z => by cases z)) id)) .nil, hl, hb⟩, fun _ => rfl⟩
  simp only [List.mem_cons, List.not_mem_nil, or_false] at hp
  rcases hp with rfl | rfl
  · exact TabS.nil h1
  · exact TabS.nil h2
theorem fixW {X : Cx} {T : Tx} {W : WX} {e : Expr} {f : Rho → Rs Bool} (h : PT X e (tT T W f)) : PT X e (tT T W f) := h
end G6

namespace G6
open PySem PySem.Spec PyProof.Rows L2
/-! ### evaluation lemmas (plain) -/
theorem kMod_int {i j : Int} (h : 0 < j) : kMod (.int i) (.int j) = some (.sh (.int (i % j))) := by simp [kMod, kI, h]
theorem kDiv_int {i j : Int} (h : divOk i j = true) : kDiv (.int i) (.int j) = some (.sh (.int (i / j))) := by simp [kDiv, kI, h]
theorem kMul_int {i j : Int} (h : mulOk i j = true) : kMul (.int i) (.int j) = some (.sh (.int (i * j))) := by simp [kMul, kI, h]
theorem kSub_int {i j : Int} : kSub (.int i) (.int j) = some (.sh (.int (i - j))) := rfl
theorem kAdd_int {i j : Int} : kAdd (.int i) (.int j) = some (.sh (.int (i + j))) := rfl
theorem kLt_int {i j : Int} : kLt (.int i) (.int j) = some (.sh (.bl (decide (i < j)))) := rfl
theorem kLe_int {i j : Int} : kLe (.int i) (.int j) = some (.sh (.bl (decide (i ≤ j)))) := rfl
theorem kGt_int {i j : Int} : kGt (.int i) (.int j) = some (.sh (.bl (decide (j < i)))) := rfl
theorem kGe_int {i j : Int} : kGe (.int i) (.int j) = some (.sh (.bl (decide (j ≤ i)))) := rfl
theorem kEq_int {i j : Int} : kEq (.int i) (.int j) = some (.sh (.bl (i == j))) := rfl
theorem kNe_int {i j : Int} : kNe (.int i) (.int j) = some (.sh (.bl (!(i == j)))) := rfl
theorem kEq_str {i j : Str} (h : PyData.strOk i = true) (h' : PyData.strOk j = true) : kEq (.str i) (.str j) = some (.sh (.bl (i == j))) := by
  simp [kEq, nrm, fits, h, h', eqF]
theorem kEq_pair {a b c d : Int} : kEq (.tup [.int a, .int b]) (.tup [.int c, .int d]) = some (.sh (.bl ((a == c) && ((b == d) && true)))) := rfl
theorem kNe_pair {a b c d : Int} : kNe (.tup [.int a, .int b]) (.tup [.int c, .int d]) = some (.sh (.bl (!((a == c) && ((b == d) && true))))) := rfl
theorem beq_i {a b : Int} (h : a = b) : (a == b) = true := by simp [h]
theorem bne_i {a b : Int} (h : ¬ a = b) : (a == b) = false := by simp [h]
theorem mulOk_l {i j : Int} (h1 : -18446744073709551616 < i) (h2 : i < 18446744073709551616) : mulOk i j = true := by
  unfold mulOk
  have : i.natAbs < 2 ^ 64 := by have : (2:Nat) ^ 64 = 18446744073709551616 := by decide
                                 omega
  simp [this]
theorem mulOk_r {i j : Int} (h1 : -18446744073709551616 < j) (h2 : j < 18446744073709551616) : mulOk i j = true := by
  unfold mulOk
  have : j.natAbs < 2 ^ 64 := by have : (2:Nat) ^ 64 = 18446744073709551616 := by decide
                                 omega
  simp [this]
theorem log2_lt_of {n k : Nat} (h : n < 2 ^ k) (hk : 0 < k) : n.log2 < k := by
  by_cases h0 : n = 0
  · subst h0; simpa using hk
  · exact (Nat.log2_lt h0).mpr h
theorem mulOk_b {i j : Int} (a b : Nat) (h1 : i.natAbs < 2 ^ a) (h2 : j.natAbs < 2 ^ b) (h : a + b ≤ 100000000) (ha : 0 < a) (hb : 0 < b) : mulOk i j = true := by
  unfold mulOk
  have := log2_lt_of h1 ha
  have := log2_lt_of h2 hb
  have : i.natAbs.log2 + j.natAbs.log2 < 100000000 := by omega
  simp [this]
theorem divOk_b {i j : Int} (a : Nat) (h0 : 0 < j) (h1 : j.natAbs < 2 ^ a) (h : a ≤ 9000) (ha : 0 < a) : divOk i j = true := by
  unfold divOk
  have := log2_lt_of h1 ha
  have : j.natAbs.log2 < 9000 := by omega
  simp [this, h0]
theorem divOk_s {i j : Int} (h0 : 0 < j) (h1 : j < 18446744073709551616) : divOk i j = true := by
  refine divOk_b 64 h0 ?_ (by decide) (by decide)
  have : (2:Nat) ^ 64 = 18446744073709551616 := by decide
  omega
/-- a loop that runs through -/
theorem loopF_inv {is : List Nat} {un : Unp} {g : SemS} (I : Rho → Prop) : ∀ {ds : List Da}, (∀ d ∈ ds, ∀ ρ, I ρ → ∃ xs ρ', un d = some xs ∧ xs.length = is.length ∧ (g (setR ρ is xs) = .nx ρ' ∨ g (setR ρ is xs) = .ct ρ') ∧ I ρ') → ∀ {ρ}, I ρ → ∃ ρ', loopF is un g ds ρ = .nx ρ' ∧ I ρ'
  | [], _, ρ, h => ⟨ρ, rfl, h⟩
  | d :: ds, hs, ρ, h => by
    obtain ⟨xs, ρ', h1, h2, h3, h4⟩ := hs d List.mem_cons_self ρ h
    obtain ⟨ρ'', h5, h6⟩ := loopF_inv I (fun e he => hs e (List.mem_cons_of_mem _ he)) h4
    refine ⟨ρ'', ?_, h6⟩
    unfold loopF
    rw [h1]
    dsimp only
    rw [if_pos h2]
    rcases h3 with h3 | h3 <;> rw [h3] <;> exact h5
end G6
namespace G6
open PySem PySem.Spec PyProof.Rows L2
theorem mulOk_m {i j : Int} (h1 : -10 ^ 85 < i) (h2 : i < 10 ^ 85) (h3 : -10 ^ 85 < j) (h4 : j < 10 ^ 85) : mulOk i j = true := by
  refine mulOk_b 300 300 ?_ ?_ (by decide) (by decide) (by decide)
  · have : (10:Nat) ^ 85 < 2 ^ 300 := by decide +kernel
    omega
  · have : (10:Nat) ^ 85 < 2 ^ 300 := by decide +kernel
    omega
theorem divOk_m {i j : Int} (h0 : 0 < j) (h2 : j < 10 ^ 85) : divOk i j = true := by
  refine divOk_b 300 h0 ?_ (by decide) (by decide)
  have : (10:Nat) ^ 85 < 2 ^ 300 := by decide +kernel
  omega
theorem kDivmod_int {i j : Int} (h : divOk i j = true) : kDivmod [.int i, .int j] = some (.sh (.tup [.int (i / j), .int (i % j)])) := by simp [kDivmod, h]
theorem kIn_pair {r a b : Int} : kIn (.int r) (.tup [.int a, .int b]) = some (.sh (.bl ((a == r) || ((b == r) || false)))) := rfl
theorem loopF_nil {is : List Nat} {un : Unp} {g : SemS} {ρ : Rho} : loopF is un g [] ρ = .nx ρ := rfl
theorem loopF_cons {is : List Nat} {un : Unp} {g : SemS} {ρ : Rho} {d : Da} {ds : List Da} : loopF is un g (d :: ds) ρ = (match un d with
    | none => .no
    | some xs => if xs.length = is.length then
        (match g (setR ρ is xs) with
        | .nx ρ' => loopF is un g ds ρ'
        | .ct ρ' => loopF is un g ds ρ'
        | .bk ρ' => .nx ρ'
        | .rt s => .rt s
        | .ex c r => .ex c r
        | .no => .no) else .no) := rfl
/-! ### evaluation, step by step -/
def Ou.andThen (o : Ou) (b : SemS) : Ou := match o with
  | .nx ρ' => b ρ'
  | .rt s => .rt s
  | .bk r => .bk r
  | .ct r => .ct r
  | .ex c r => .ex c r
  | .no => .no
def fin {α : Type} (r : Rs α) (ρ : Rho) (k : α → Ou) : Ou := match r with
  | .ok a => k a
  | .ex c => .ex c ρ
  | .no => .no
def selS (b : Bool) (x y : SemS) (ρ : Rho) : Ou := match b with
  | true => x ρ
  | false => y ρ
def selE (b : Bool) (x y : Sem1) (ρ : Rho) : Rs Sl := match b with
  | true => x ρ
  | false => y ρ
def andT (r : Rs Bool) (u : Rho → Rs Bool) (ρ : Rho) : Rs Bool := match r with
  | .ok true => u ρ
  | .ok false => .ok false
  | .ex c => .ex c
  | .no => .no
def orT (r : Rs Bool) (u : Rho → Rs Bool) (ρ : Rho) : Rs Bool := match r with
  | .ok true => .ok true
  | .ok false => u ρ
  | .ex c => .ex c
  | .no => .no
def andE (r : Rs Da) (u : Sem1) (ρ : Rho) : Rs Sl := match r with
  | .ok (.bl true) => u ρ
  | .ok (.bl false) => .ok (.sh (.bl false))
  | .ok _ => .no
  | .ex c => .ex c
  | .no => .no
def orE (r : Rs Da) (u : Sem1) (ρ : Rho) : Rs Sl := match r with
  | .ok (.bl true) => .ok (.sh (.bl true))
  | .ok (.bl false) => u ρ
  | .ok _ => .no
  | .ex c => .ex c
  | .no => .no
def chN (r : Option Sl) (k' : Da → Da → Option Sl) (y : Da) (h : Sem1) (ρ : Rho) : Rs Sl := match r with
  | some (.sh (.bl true)) => (dat (h ρ)).bind fun z => ofO (k' y z)
  | some (.sh (.bl false)) => .ok (.sh (.bl false))
  | _ => .no
def chN2 (r : Option Sl) (k2 k3 : Da → Da → Option Sl) (y : Da) (h l : Sem1) (ρ : Rho) : Rs Sl := match r with
  | some (.sh (.bl true)) => (dat (h ρ)).bind fun z => chN (k2 y z) k3 z l ρ
  | some (.sh (.bl false)) => .ok (.sh (.bl false))
  | _ => .no
def dB (r : Da) : Rs Bool := match r with
  | .bl b => .ok b
  | _ => .no
def dN (r : Da) : Rs Sl := match r with
  | .bl b => .ok (.sh (.bl (!b)))
  | _ => .no
def tgtN (is : List Nat) (ρ : Rho) (o : Option (List Da)) : Ou := match o with
  | some ds => if ds.length = is.length then .nx (setR ρ is ds) else .no
  | none => .no
def parN (i j : Nat) (ρ : Rho) (l : List Da) : Ou := match l with
  | [d, e] => .nx ((ρ.set i (.sh d)).set j (.sh e))
  | _ => .no
def retN (o : Option Sl) : Ou := match o with
  | some .dead => .no
  | some s => .rt s
  | none => .no
def tabN (tab : Str → Option Da) (d : Da) : Rs Sl := match d with
  | .str z => (match tab z with
    | some d => .ok (.sh d)
    | none => .no)
  | _ => .no
def idxN (g : Sem1) (ρ : Rho) (d : Da) : Rs Sl := match d with
  | .kt xs => (dat (g ρ)).bind fun y => ofO (kIndexT xs y)
  | _ => .no
def loopN (is : List Nat) (un : Unp) (g : SemS) (ds : List Da) (o : Ou) : Ou := match o with
  | .nx ρ' => loopF is un g ds ρ'
  | .ct ρ' => loopF is un g ds ρ'
  | .bk ρ' => .nx ρ'
  | .rt s => .rt s
  | .ex c r => .ex c r
  | .no => .no
section
variable {a b : SemS} {f g h l : Sem1} {t u : Rho → Rs Bool} {ρ ρ' : Rho} {i j : Nat} {full : Bool} {k k' k3 : Da → Da → Option Sl} {fs : Rho → Rs (List Da)} {s : Sl} {d : Da} {c : Str}
theorem sSeq_e : sSeq a b ρ = (a ρ).andThen b := by unfold sSeq Ou.andThen; cases a ρ <;> rfl
theorem then_nx : (Ou.nx ρ).andThen b = b ρ := rfl
theorem then_rt : (Ou.rt s).andThen b = .rt s := rfl
theorem then_ex : (Ou.ex c ρ).andThen b = .ex c ρ := rfl
theorem fin_ok {α : Type} {x : α} {q : α → Ou} : fin (.ok x) ρ q = q x := rfl
theorem fin_ex {α : Type} {q : α → Ou} : fin (.ex c) ρ q = .ex c ρ := rfl
theorem sSet_e : sSet i full f ρ = fin (dat (stf full f ρ)) ρ fun d => .nx (ρ.set i (.sh d)) := by unfold sSet fin; cases dat (stf full f ρ) <;> rfl
theorem sOwn_e : sOwn i full f ρ = fin (stf full f ρ) ρ fun d => .nx (ρ.set i d) := by unfold sOwn fin; cases stf full f ρ <;> rfl
theorem sRet_e : sRet full f ρ = fin (stf full f ρ) ρ .rt := by unfold sRet fin; cases stf full f ρ <;> rfl
theorem sExpr_e : sExpr f ρ = fin (f ρ) ρ fun _ => .nx ρ := by unfold sExpr fin; cases f ρ <;> rfl
theorem sRetVar_e : sRetVar i ρ = retN ρ[i]? := by
  unfold sRetVar retN
  cases ρ[i]? with
  | none => rfl
  | some s => cases s <;> rfl
theorem retN_sh : retN (some (.sh d)) = .rt (.sh d) := rfl
theorem retN_ow {xs : List Da} : retN (some (.ow xs)) = .rt (.ow xs) := rfl
theorem retN_ow2 {xs : List (List Da)} : retN (some (.ow2 xs)) = .rt (.ow2 xs) := rfl
theorem sIf_e : sIf t a b ρ = fin (t ρ) ρ fun x => selS x a b ρ := by
  unfold sIf fin
  cases t ρ with
  | ok x => cases x <;> rfl
  | ex c => rfl
  | no => rfl
theorem selS_t : selS true a b ρ = a ρ := rfl
theorem selS_f : selS false a b ρ = b ρ := rfl
theorem selE_t : selE true f g ρ = f ρ := rfl
theorem selE_f : selE false f g ρ = g ρ := rfl
theorem stf_f : stf false f ρ = f (Rho.shs ρ) := rfl
theorem stf_t : stf true f ρ = (f ρ).bind fun s => if sep s = true then .ok s else .no := rfl
theorem bind_ok {α β : Type} {x : α} {q : α → Rs β} : (Rs.ok x).bind q = q x := rfl
theorem bind_ex {α β : Type} {q : α → Rs β} : (Rs.ex c).bind q = .ex c := rfl
theorem dat_ok : dat (.ok s) = (match s.view with | some d => .ok d | none => .no) := rfl
theorem dat_sh : dat (.ok (.sh d)) = .ok d := rfl
theorem dat_ow {xs : List Da} : dat (.ok (.ow xs)) = .ok (.lst xs) := rfl
theorem dat_ow2 {xs : List (List Da)} : dat (.ok (.ow2 xs)) = .ok (.lst (xs.map .lst)) := rfl
theorem dat_ex : dat (.ex c) = .ex c := rfl
theorem ofO_some {α : Type} {x : α} : ofO (some x) = .ok x := rfl
theorem eVar_e : eVar i ρ = (match ρ[i]? with | some s => (match s.view with | some d => .ok (.sh d) | none => .no) | none => .no) := rfl
theorem eOp_e : eOp k f g ρ = (dat (f ρ)).bind fun x => (dat (g ρ)).bind fun y => ofO (k x y) := rfl
theorem eUn_e {q : Da → Option Sl} : eUn q f ρ = (dat (f ρ)).bind fun x => ofO (q x) := rfl
theorem eIf_e : eIf t f g ρ = (t ρ).bind fun x => selE x f g ρ := by
  unfold eIf
  cases t ρ with
  | ok x => cases x <;> rfl
  | ex c => rfl
  | no => rfl
theorem fB_e : fB f ρ = (dat (f ρ)).bind dB := by
  unfold fB
  cases dat (f ρ) with
  | ok x => cases x <;> rfl
  | ex c => rfl
  | no => rfl
theorem dB_bl {x : Bool} : dB (.bl x) = .ok x := rfl
theorem fAnd_e : fAnd t u ρ = andT (t ρ) u ρ := by
  unfold fAnd andT
  cases t ρ with
  | ok x => cases x <;> rfl
  | ex c => rfl
  | no => rfl
theorem fOr_e : fOr t u ρ = orT (t ρ) u ρ := by
  unfold fOr orT
  cases t ρ with
  | ok x => cases x <;> rfl
  | ex c => rfl
  | no => rfl
theorem andT_t : andT (.ok true) u ρ = u ρ := rfl
theorem andT_f : andT (.ok false) u ρ = .ok false := rfl
theorem andT_x : andT (.ex c) u ρ = .ex c := rfl
theorem orT_t : orT (.ok true) u ρ = .ok true := rfl
theorem orT_f : orT (.ok false) u ρ = u ρ := rfl
theorem orT_x : orT (.ex c) u ρ = .ex c := rfl
theorem fNot_e : fNot t ρ = (t ρ).bind fun x => .ok (!x) := rfl
theorem eAnd_e : eAnd f g ρ = andE (dat (f ρ)) g ρ := by
  unfold eAnd andE
  cases dat (f ρ) with
  | ok x => cases x with
    | bl x => cases x <;> rfl
    | _ => rfl
  | ex c => rfl
  | no => rfl
theorem eOr_e : eOr f g ρ = orE (dat (f ρ)) g ρ := by
  unfold eOr orE
  cases dat (f ρ) with
  | ok x => cases x with
    | bl x => cases x <;> rfl
    | _ => rfl
  | ex c => rfl
  | no => rfl
theorem andE_t : andE (.ok (.bl true)) g ρ = g ρ := rfl
theorem andE_f : andE (.ok (.bl false)) g ρ = .ok (.sh (.bl false)) := rfl
theorem orE_t : orE (.ok (.bl true)) g ρ = .ok (.sh (.bl true)) := rfl
theorem orE_f : orE (.ok (.bl false)) g ρ = g ρ := rfl
theorem eNot_e : eNot f ρ = (dat (f ρ)).bind dN := by
  unfold eNot
  cases dat (f ρ) with
  | ok x => cases x <;> rfl
  | ex c => rfl
  | no => rfl
theorem dN_bl {x : Bool} : dN (.bl x) = .ok (.sh (.bl (!x))) := rfl
theorem eCh_e : eCh k k' f g h ρ = (dat (f ρ)).bind fun x => (dat (g ρ)).bind fun y => chN (k x y) k' y h ρ := rfl
theorem chN_t {y : Da} : chN (some (.sh (.bl true))) k' y h ρ = (dat (h ρ)).bind fun z => ofO (k' y z) := rfl
theorem chN_f {y : Da} : chN (some (.sh (.bl false))) k' y h ρ = .ok (.sh (.bl false)) := rfl
theorem eCh3_e : eCh3 k k' k3 f g h l ρ = (dat (f ρ)).bind fun x => (dat (g ρ)).bind fun y => chN2 (k x y) k' k3 y h l ρ := rfl
theorem chN2_t {y : Da} : chN2 (some (.sh (.bl true))) k' k3 y h l ρ = (dat (h ρ)).bind fun z => chN (k' y z) k3 z l ρ := rfl
theorem chN2_f {y : Da} : chN2 (some (.sh (.bl false))) k' k3 y h l ρ = .ok (.sh (.bl false)) := rfl
theorem aCons_e : aCons f fs ρ = (dat (f ρ)).bind fun d => (fs ρ).bind fun ds => .ok (d :: ds) := rfl
theorem aNil_e : aNil ρ = .ok [] := rfl
theorem eLst_e : eLst fs ρ = (fs ρ).bind fun ds => if ds.length ≤ 1000 then .ok (.ow ds) else .no := rfl
theorem eTup_e : eTup fs ρ = (fs ρ).bind fun ds => if ds.length ≤ 1000 then .ok (.sh (.tup ds)) else .no := rfl
theorem eCall_e {q : List Da → Option Sl} : eCall q fs ρ = (fs ρ).bind fun ds => ofO (q ds) := rfl
theorem eFn_e {q : List Da → Rs Sl} : eFn q fs ρ = (fs ρ).bind q := rfl
theorem eC_e : eC d ρ = .ok (.sh d) := rfl
theorem sTgt_e {is : List Nat} {un : Unp} : sTgt is un full f ρ = fin (dat (stf full f ρ)) ρ fun d => tgtN is ρ (un d) := by
  unfold sTgt fin tgtN
  cases dat (stf full f ρ) with
  | ok d => first | rfl | (dsimp only; cases un d <;> rfl)
  | ex c => rfl
  | no => rfl
theorem tgtN_some {is : List Nat} {ds : List Da} : tgtN is ρ (some ds) = if ds.length = is.length then .nx (setR ρ is ds) else .no := rfl
theorem sPar_e : sPar i j fs ρ = fin (fs (Rho.shs ρ)) ρ (parN i j ρ) := by
  unfold sPar fin parN
  cases fs (Rho.shs ρ) with
  | ok l => match l with
    | [] => rfl
    | [_] => rfl
    | [_, _] => rfl
    | _ :: _ :: _ :: _ => rfl
  | ex c => rfl
  | no => rfl
theorem parN_e {x y : Da} : parN i j ρ [x, y] = .nx ((ρ.set i (.sh x)).set j (.sh y)) := rfl
theorem sRaise_e : sRaise c ρ = .ex c ρ := rfl
theorem sNil_e : sNil ρ = .nx ρ := rfl
theorem eTab_e {tab : Str → Option Da} : eTab tab f ρ = (dat (f ρ)).bind (tabN tab) := by
  unfold eTab tabN
  cases dat (f ρ) with
  | ok x => cases x <;> rfl
  | ex c => rfl
  | no => rfl
theorem tabN_e {tab : Str → Option Da} {z : Str} {x : Da} (e : tab z = some x) : tabN tab (.str z) = .ok (.sh x) := by simp only [tabN, e]
theorem eIndexT_e : eIndexT f g ρ = (dat (f ρ)).bind (idxN g ρ) := by
  unfold eIndexT idxN
  cases dat (f ρ) with
  | ok x => cases x <;> rfl
  | ex c => rfl
  | no => rfl
theorem idxN_e {xs : List Da} : idxN g ρ (.kt xs) = (dat (g ρ)).bind fun y => ofO (kIndexT xs y) := rfl
theorem sFor_e {fI : Rho → Rs (List Da)} {is : List Nat} {un : Unp} : sFor fI is un a ρ = fin (fI (Rho.shs ρ)) ρ fun items => loopF is un a items ρ := by unfold sFor fin; cases fI (Rho.shs ρ) <;> rfl
theorem iL_e {un : Unp} : iL un f ρ = (dat (f ρ)).bind fun d => ofO (un d) := rfl
theorem loop_cons {is : List Nat} {un : Unp} {ds xs : List Da} (e : un d = some xs) (hl : xs.length = is.length) : loopF is un a (d :: ds) ρ = loopN is un a ds (a (setR ρ is xs)) := by
  rw [loopF_cons, e]
  dsimp only
  rw [if_pos hl]
  unfold loopN
  cases a (setR ρ is xs) <;> rfl
theorem loop_un1 {i : Nat} {ds : List Da} : loopF [i] un1 a (d :: ds) ρ = loopN [i] un1 a ds (a (ρ.set i (.sh d))) := loop_cons (xs := [d]) (is := [i]) rfl rfl
theorem loopN_nx {is : List Nat} {un : Unp} {ds : List Da} : loopN is un a ds (.nx ρ) = loopF is un a ds ρ := rfl
theorem loopN_rt {is : List Nat} {un : Unp} {ds : List Da} : loopN is un a ds (.rt s) = .rt s := rfl
theorem loopN_ex {is : List Nat} {un : Unp} {ds : List Da} : loopN is un a ds (.ex c ρ) = .ex c ρ := rfl
theorem loopN_no {is : List Nat} {un : Unp} {ds : List Da} : loopN is un a ds .no = .no := rfl
theorem endS_rt : endS (.rt s) = .ok s := rfl
theorem endS_nx : endS (.nx ρ) = .ok (.sh .non) := rfl
theorem endS_ex : endS (.ex c ρ) = .ex c := rfl
theorem view_sh : (Sl.sh d).view = some d := rfl
theorem view_ow {xs : List Da} : (Sl.ow xs).view = some (.lst xs) := rfl
theorem view_ow2 {xs : List (List Da)} : (Sl.ow2 xs).view = some (.lst (xs.map .lst)) := rfl
theorem shs_cons : Rho.shs (s :: ρ) = shO s :: Rho.shs ρ := rfl
theorem shs_nil : Rho.shs [] = [] := rfl
theorem shO_sh : shO (.sh d) = .sh d := rfl
theorem shO_dead : shO .dead = .dead := rfl
theorem shO_ow {xs : List Da} : shO (.ow xs) = .dead := rfl
theorem shO_ow2 {xs : List (List Da)} : shO (.ow2 xs) = .dead := rfl
theorem setR_c {i : Nat} {is : List Nat} {ds : List Da} : setR ρ (i :: is) (d :: ds) = setR (ρ.set i (.sh d)) is ds := rfl
theorem setR_n {ds : List Da} : setR ρ [] ds = ρ := by cases ds <;> rfl
theorem un1_e : un1 d = some [d] := rfl
theorem unT_e {xs : List Da} : unT (.tup xs) = some xs := rfl
theorem oNone_e : oNone ρ = .ok none := rfl
def dI (d : Da) : Rs (Option Int) := match d with
  | .int i => .ok (some i)
  | _ => .no
theorem oSome_e : oSome f ρ = (dat (f ρ)).bind dI := by
  unfold oSome
  cases dat (f ρ) with
  | ok x => cases x <;> rfl
  | ex c => rfl
  | no => rfl
theorem dI_int {i : Int} : dI (.int i) = .ok (some i) := rfl
end
end G6

namespace G6
open PySem PySem.Spec PyProof.Rows L2
/-! ### sizes -/
def Bt (k : Nat) (i : Int) : Prop := i.natAbs < 2 ^ k
section
variable {a b k : Nat} {i j : Int}
theorem Bt.mono (h : Bt a i) (hk : a ≤ b) : Bt b i := Nat.lt_of_lt_of_le h (Nat.pow_le_pow_right (by decide) hk)
theorem Bt.add (h : Bt k i) (h' : Bt k j) : Bt (k + 1) (i + j) := by
  unfold Bt at *
  rw [Nat.pow_succ]
  omega
theorem Bt.sub (h : Bt k i) (h' : Bt k j) : Bt (k + 1) (i - j) := by
  unfold Bt at *
  rw [Nat.pow_succ]
  omega
theorem Bt.mul (h : Bt a i) (h' : Bt b j) : Bt (a + b) (i * j) := by
  unfold Bt at *
  rw [Int.natAbs_mul, Nat.pow_add]
  exact Nat.mul_lt_mul'' h h'
theorem Bt.ok (h : Bt a i) (h' : Bt b j) (hab : a + b ≤ 100000000 := by decide) (ha : 0 < a := by decide) (hb : 0 < b := by decide) : mulOk i j = true := mulOk_b a b h h' hab ha hb
theorem Bt.of_bits (h : Builtin.Int.intBits i ≤ k) : Bt k i := by
  unfold Builtin.Int.intBits at h
  unfold Bt
  by_cases e : i = 0
  · subst e; simpa using Nat.pow_pos (n := k) (show 0 < 2 by decide)
  · rw [if_neg (by simpa using e)] at h
    exact Nat.lt_of_lt_of_le Nat.lt_log2_self (Nat.pow_le_pow_right (by decide) h)
theorem Bt.small (h1 : -18446744073709551616 < i) (h2 : i < 18446744073709551616) : Bt 64 i := by
  unfold Bt
  have : (2:Nat) ^ 64 = 18446744073709551616 := by decide
  omega
end
theorem Bt.sum {k : Nat} : ∀ {l : List Int}, (∀ z ∈ l, Bt k z) → l.sum.natAbs ≤ l.length * 2 ^ k
  | [], _ => by simp
  | z :: l, h => by
    have h1 := Bt.sum (l := l) fun y hy => h y (List.mem_cons_of_mem _ hy)
    have h2 : z.natAbs < 2 ^ k := h z List.mem_cons_self
    rw [List.sum_cons, List.length_cons, Nat.add_mul]
    omega
theorem Bt.sum' {k : Nat} {l : List Int} (h : ∀ z ∈ l, Bt k z) (hl : l.length ≤ 127) : Bt (k + 7) l.sum := by
  have h1 := Bt.sum h
  unfold Bt
  rw [Nat.pow_add]
  have h2 : l.length * 2 ^ k ≤ 127 * 2 ^ k := Nat.mul_le_mul_right _ hl
  have h3 : 0 < 2 ^ k := Nat.pow_pos (by decide)
  omega
/-! ### slices, items -/
theorem cut_map {α β : Type} (f : α → β) (xs : List α) (lo hi : Option Int) : cut (xs.map f) lo hi = (cut xs lo hi).map f := by
  unfold cut
  rw [List.length_map, List.map_take, List.map_drop]
theorem mem_cut {α : Type} {xs : List α} {lo hi : Option Int} {x : α} (h : x ∈ cut xs lo hi) : x ∈ xs := List.mem_of_mem_drop (List.mem_of_mem_take h)
theorem cut_len {α : Type} {xs : List α} {lo hi : Option Int} : (cut xs lo hi).length ≤ xs.length := by
  unfold cut
  rw [List.length_take, List.length_drop]
  omega
theorem cut_all {α : Type} {xs : List α} {k : Nat} (h : xs.length ≤ k) : cut xs none (some (k : Int)) = xs := by
  unfold cut
  rw [HT.sIx_none, HT.sIx_nat, List.drop_zero, Nat.min_eq_right h, Nat.sub_zero, List.take_length]
theorem cut_nat {α : Type} {xs : List α} {a b : Nat} : cut xs (some (a : Int)) (some (b : Int)) = (xs.drop (min a xs.length)).take (min b xs.length - min a xs.length) := by
  unfold cut
  rw [HT.sIx_nat, HT.sIx_nat]
theorem asL_scr {ns : List Int} : asL (.scr ns) = some (ns.map .int) := rfl
theorem asL_lst {xs : List Da} : asL (.lst xs) = some xs := rfl
def slN (l h : Option Int) (d : Da) : Rs Sl := match asL d with
  | some xs => .ok (.ow (cut xs l h))
  | none => .no
theorem eSl_e {f : Sem1} {lo hi : Rho → Rs (Option Int)} {ρ : Rho} : eSl f lo hi ρ = (dat (f ρ)).bind fun d => (lo ρ).bind fun l => (hi ρ).bind fun h => slN l h d := rfl
theorem slN_lst {l h : Option Int} {xs : List Da} : slN l h (.lst xs) = .ok (.ow (cut xs l h)) := rfl
theorem slN_scr {l h : Option Int} {ns : List Int} : slN l h (.scr ns) = .ok (.ow ((cut ns l h).map .int)) := by
  rw [← cut_map]; rfl
theorem kAdd_lst {xs ys : List Da} (h : xs.length + ys.length ≤ 1000000) : kAdd (.lst xs) (.lst ys) = some (.ow (xs ++ ys)) := by simp [kAdd, h]
theorem kSum_ints {ns : List Int} : kSum [.lst (ns.map .int)] = some (.sh (.int ns.sum)) := by
  unfold kSum ints1
  simp only [asL, Option.bind, asInts_ints, Option.map]
theorem kLen_lst {xs : List Da} : kLen [.lst xs] = some (.sh (.int xs.length)) := rfl
theorem kLen_scr {xs : List Int} : kLen [.scr xs] = some (.sh (.int xs.length)) := by
  show some (Sl.sh (Da.int ((xs.map Da.int).length : Int))) = _
  rw [List.length_map]
theorem atI_get' {α : Type} {xs : List α} {i : Int} (h0 : 0 ≤ i) (h1 : i < xs.length) : atI xs i = some (xs[i.toNat]'(by omega)) := by
  have e : i = ((i.toNat : Nat) : Int) := by omega
  conv => lhs; rw [e]
  exact atI_nat (List.getElem?_eq_getElem (by omega))
theorem kIx_lst {xs : List Da} {i : Int} (h0 : 0 ≤ i) (h1 : i < xs.length) : kIx (.lst xs) (.int i) = some (.sh (xs[i.toNat]'(by omega))) := by
  show (atI xs i).map Sl.sh = _
  rw [atI_get' h0 h1]; rfl
theorem kIx_ints {xs : List Int} {i : Int} (h0 : 0 ≤ i) (h1 : i < xs.length) : kIx (.lst (xs.map .int)) (.int i) = some (.sh (.int (xs[i.toNat]'(by omega)))) := by
  rw [kIx_lst h0 (by rw [List.length_map]; exact h1)]
  simp
theorem kIx_tup0 {x : Da} {xs : List Da} : kIx (.tup (x :: xs)) (.int 0) = some (.sh x) := by
  show (atI (x :: xs) 0).map Sl.sh = _
  rw [show (0 : Int) = ((0 : Nat) : Int) from rfl, atI_nat (v := x) rfl]; rfl
theorem kIx_tup1 {x y : Da} {xs : List Da} : kIx (.tup (x :: y :: xs)) (.int 1) = some (.sh y) := by
  show (atI (x :: y :: xs) 1).map Sl.sh = _
  rw [show (1 : Int) = ((1 : Nat) : Int) from rfl, atI_nat (v := y) rfl]; rfl
theorem kIx_tup2 {x y z : Da} {xs : List Da} : kIx (.tup (x :: y :: z :: xs)) (.int 2) = some (.sh z) := by
  show (atI (x :: y :: z :: xs) 2).map Sl.sh = _
  rw [show (2 : Int) = ((2 : Nat) : Int) from rfl, atI_nat (v := z) rfl]; rfl
theorem kMin_pair {a b : Int} : kMin [.tup [.int a, .int b]] = some (.sh (.int (min a b))) := rfl
theorem kMax_pair {a b : Int} : kMax [.tup [.int a, .int b]] = some (.sh (.int (max a b))) := rfl
theorem loop_pair {i j : Nat} {a : SemS} {ds : List Da} {x y : Da} {ρ : Rho} : loopF [i, j] unT a (.tup [x, y] :: ds) ρ = loopN [i, j] unT a ds (a ((ρ.set i (.sh x)).set j (.sh y))) := loop_cons (xs := [x, y]) rfl rfl
theorem kPow_e {i j : Int} (h : powOk i j = true) : kPow (.int i) (.int j) = some (.sh (.int (i ^ j.toNat))) := by simp [kPow, kI, h]
theorem pow9 : kPow (.int 10) (.int 9) = some (.sh (.int (10 ^ 9))) := kPow_e (by decide)
theorem pow40 : kPow (.int 10) (.int 40) = some (.sh (.int (10 ^ 40))) := kPow_e (by decide)
theorem pow18 : kPow (.int 10) (.int 18) = some (.sh (.int (10 ^ 18))) := kPow_e (by decide)
theorem pow25 : kPow (.int 10) (.int 25) = some (.sh (.int (10 ^ 25))) := kPow_e (by decide)
theorem pow30 : kPow (.int 10) (.int 30) = some (.sh (.int (10 ^ 30))) := kPow_e (by decide)
end G6

namespace G6
open PySem PySem.Spec PyProof.Rows L2
/-! ### squares of ints as data -/
def dD (xss : List (List Int)) : List (List Da) := xss.map fun xs => xs.map .int
def dM (xss : List (List Int)) : Da := .lst (xss.map fun xs => .lst (xs.map .int))
def tb (n m : Nat) (f : Nat → Nat → Int) : List (List Int) := (List.range n).map fun r => (List.range m).map fun c => f r c
theorem dD_view {xss : List (List Int)} : (Sl.ow2 (dD xss)).view = some (dM xss) := by
  show some (Da.lst ((dD xss).map .lst)) = _
  unfold dD dM
  rw [List.map_map]
  rfl
theorem lst_dD {xss : List (List Int)} : Da.lst ((dD xss).map .lst) = dM xss := by
  have := @dD_view xss
  exact Option.some.inj this
theorem dat_dD {xss : List (List Int)} : dat (.ok (.ow2 (dD xss))) = .ok (dM xss) := by
  rw [dat_ok, dD_view]
theorem dD_len {xss : List (List Int)} : (dD xss).length = xss.length := by unfold dD; rw [List.length_map]
theorem tb_len {n m : Nat} {f : Nat → Nat → Int} : (tb n m f).length = n := by unfold tb; rw [List.length_map, List.length_range]
theorem tb_row {n m : Nat} {f : Nat → Nat → Int} {r : Nat} (h : r < n) : (tb n m f)[r]? = some ((List.range m).map fun c => f r c) := by
  unfold tb
  rw [List.getElem?_map, List.getElem?_range h]
  rfl
theorem tb_congr {n m : Nat} {f g : Nat → Nat → Int} (h : ∀ r c, r < n → c < m → f r c = g r c) : tb n m f = tb n m g := by
  unfold tb
  refine List.map_congr_left fun r hr => List.map_congr_left fun c hc => h r c (List.mem_range.mp hr) (List.mem_range.mp hc)
/-! ### comprehensions -/
theorem mapO_some {α β : Type} {k : α → Option β} {h : α → β} : ∀ {ds : List α}, (∀ d ∈ ds, k d = some (h d)) → mapO k ds = some (ds.map h)
  | [], _ => rfl
  | d :: ds, e => by
    rw [mapO, e d List.mem_cons_self, mapO_some fun x hx => e x (List.mem_cons_of_mem _ hx)]
    rfl
section
variable {fI : Rho → Rs (List Da)} {is vs : List Nat} {un : Unp} {fe : Sem1} {ρ : Rho} {items : List Da}
theorem eLc_ok (h : Da → Da) (hi : fI ρ = .ok items) (hl : items.length ≤ 1000000) (he : ∀ d ∈ items, elD is un vs fe ρ d = some (h d)) : eLc fI is un vs fe ρ = .ok (.ow (items.map h)) := by
  unfold eLc
  rw [hi]
  dsimp only
  rw [if_pos hl, mapO_some he]
theorem eLc2_ok (h : Da → List Da) (hi : fI ρ = .ok items) (hl : items.length ≤ 1000000) (he : ∀ d ∈ items, elO is un vs fe ρ d = some (h d)) : eLc2 fI is un vs fe ρ = .ok (.ow2 (items.map h)) := by
  unfold eLc2
  rw [hi]
  dsimp only
  rw [if_pos hl, mapO_some he]
theorem elD_un1 {i : Nat} {d y : Da} (h : dat (fe ((wipeR ρ vs).set i (.sh d))) = .ok y) : elD [i] un1 vs fe ρ d = some y := by
  unfold elD un1
  dsimp only
  rw [if_pos (show [d].length = [i].length from rfl)]
  show (match dat (fe ((wipeR ρ vs).set i (.sh d))) with | .ok y => some y | _ => none) = _
  rw [h]
theorem elO_un1 {i : Nat} {d : Da} {y : List Da} (h : fe ((wipeR ρ vs).set i (.sh d)) = .ok (.ow y)) : elO [i] un1 vs fe ρ d = some y := by
  unfold elO un1
  dsimp only
  rw [if_pos (show [d].length = [i].length from rfl)]
  show (match fe ((wipeR ρ vs).set i (.sh d)) with | .ok (.ow y) => some y | _ => none) = _
  rw [h]
theorem elD_pair {i j : Nat} {d e y : Da} (h : dat (fe (((wipeR ρ vs).set i (.sh d)).set j (.sh e))) = .ok y) : elD [i, j] unT vs fe ρ (.tup [d, e]) = some y := by
  unfold elD unT
  dsimp only
  rw [if_pos (show [d, e].length = [i, j].length from rfl)]
  show (match dat (fe (((wipeR ρ vs).set i (.sh d)).set j (.sh e))) with | .ok y => some y | _ => none) = _
  rw [h]
theorem elO_pair {i j : Nat} {d e : Da} {y : List Da} (h : fe (((wipeR ρ vs).set i (.sh d)).set j (.sh e)) = .ok (.ow y)) : elO [i, j] unT vs fe ρ (.tup [d, e]) = some y := by
  unfold elO unT
  dsimp only
  rw [if_pos (show [d, e].length = [i, j].length from rfl)]
  show (match fe (((wipeR ρ vs).set i (.sh d)).set j (.sh e)) with | .ok (.ow y) => some y | _ => none) = _
  rw [h]
end
theorem rngD_0 (n : Nat) : rngD 0 n = (List.range n).map fun (k : Nat) => Da.int (k : Int) := by
  unfold rngD
  exact List.map_congr_left fun k _ => by rw [Int.zero_add]
theorem rngD_len (lo : Int) (n : Nat) : (rngD lo n).length = n := by unfold rngD; rw [List.length_map, List.length_range]
def rangeN (n : Int) : Rs (List Da) := if n ≤ 1000000 ∧ -1000000 ≤ n then .ok (rngD 0 n.toNat) else .no
def rN (ds : List Da) : Rs (List Da) := match ds with
  | [.int n] => rangeN n
  | _ => .no
theorem iR1_e {fs : Rho → Rs (List Da)} {ρ : Rho} : iR1 fs ρ = (fs ρ).bind rN := by
  unfold iR1
  cases fs ρ with
  | ok ds => match ds with
    | [] => rfl
    | [.int n] => rfl
    | [.non] => rfl
    | [.bl _] => rfl
    | [.str _] => rfl
    | [.lst _] => rfl
    | [.tup _] => rfl
    | [.emp] => rfl
    | [.even _] => rfl
    | [.unl _ _] => rfl
    | [.scr _] => rfl
    | [.kt _] => rfl
    | [.err] => rfl
    | _ :: _ :: _ => rfl
  | ex c => rfl
  | no => rfl
theorem rN_int {n : Int} : rN [.int n] = rangeN n := rfl
theorem rangeN_ok {n : Int} (h1 : n ≤ 1000000) (h2 : -1000000 ≤ n) : rangeN n = .ok (rngD 0 n.toNat) := if_pos ⟨h1, h2⟩
theorem rangeN_nat {n : Nat} (h1 : n ≤ 1000000) : rangeN (n : Int) = .ok ((List.range n).map fun (k : Nat) => Da.int (k : Int)) := by
  rw [rangeN_ok (by omega) (by omega), Int.toNat_natCast, rngD_0]
def rN2 (ds : List Da) : Rs (List Da) := match ds with
  | [.int a, .int b] => if -1000000 ≤ a ∧ a ≤ 1000000 ∧ b ≤ 1000000 ∧ -1000000 ≤ b then .ok (rngD a (b - a).toNat) else .no
  | _ => .no
theorem iR2_e {fs : Rho → Rs (List Da)} {ρ : Rho} {a b : Int} (h : fs ρ = .ok [.int a, .int b]) (h1 : -1000000 ≤ a) (h2 : a ≤ 1000000) (h3 : b ≤ 1000000) (h4 : -1000000 ≤ b) : iR2 fs ρ = .ok (rngD a (b - a).toNat) := by
  unfold iR2
  rw [h]
  exact if_pos ⟨h1, h2, h3, h4⟩
/-! ### loops, by the turn -/
theorem loopF_ix {is : List Nat} {un : Unp} {g : SemS} (I : Nat → Rho → Prop) : ∀ {ds : List Da} {b : Nat}, (∀ k d ρ, ds[k]? = some d → I (b + k) ρ → ∃ xs ρ', un d = some xs ∧ xs.length = is.length ∧ (g (setR ρ is xs) = .nx ρ' ∨ g (setR ρ is xs) = .ct ρ') ∧ I (b + k + 1) ρ') →
    ∀ {ρ}, I b ρ → ∃ ρ', loopF is un g ds ρ = .nx ρ' ∧ I (b + ds.length) ρ'
  | [], b, _, ρ, h => ⟨ρ, rfl, h⟩
  | d :: ds, b, hs, ρ, h => by
    obtain ⟨xs, ρ', h1, h2, h3, h4⟩ := hs 0 d ρ rfl h
    obtain ⟨ρ'', h5, h6⟩ := loopF_ix I (ds := ds) (b := b + 1) (fun k e ρ he hI => by
      have := hs (k + 1) e ρ (by simpa using he) (by rw [show b + (k + 1) = b + 1 + k by omega]; exact hI)
      rw [show b + (k + 1) + 1 = b + 1 + k + 1 by omega] at this
      exact this) h4
    refine ⟨ρ'', ?_, by rw [List.length_cons, show b + (ds.length + 1) = b + 1 + ds.length by omega]; exact h6⟩
    unfold loopF
    rw [h1]
    dsimp only
    rw [if_pos h2]
    rcases h3 with h3 | h3 <;> rw [h3] <;> exact h5
/-- a loop over range(n), a name in slot i -/
theorem loop_range {i n : Nat} {g : SemS} (I : Nat → Rho → Prop) (h : ∀ k ρ, k < n → I k ρ → ∃ ρ', g (ρ.set i (.sh (.int (k : Int)))) = .nx ρ' ∧ I (k + 1) ρ') {ρ : Rho} (h0 : I 0 ρ) :
    ∃ ρ', loopF [i] un1 g ((List.range n).map fun (k : Nat) => Da.int (k : Int)) ρ = .nx ρ' ∧ I n ρ' := by
  have := loopF_ix (is := [i]) (un := un1) (g := g) I (ds := (List.range n).map fun (k : Nat) => Da.int (k : Int)) (b := 0) (fun k d ρ hd hI => by
    have hk : k < n := by
      have := (List.getElem?_eq_some_iff.mp hd).1
      simpa using this
    rw [List.getElem?_map, List.getElem?_range hk] at hd
    cases hd
    rw [Nat.zero_add] at hI ⊢
    obtain ⟨ρ', e1, e2⟩ := h k ρ hk hI
    exact ⟨[.int (k : Int)], ρ', rfl, rfl, .inl e1, e2⟩) h0
  rw [Nat.zero_add, List.length_map, List.length_range] at this
  exact this
/-- .. with the lists told -/
theorem loop_rangeE {i n : Nat} {g : SemS} (s : Nat → Rho) (h : ∀ k, k < n → g ((s k).set i (.sh (.int (k : Int)))) = .nx (s (k + 1))) : loopF [i] un1 g ((List.range n).map fun (k : Nat) => Da.int (k : Int)) (s 0) = .nx (s n) := by
  obtain ⟨ρ', e1, e2⟩ := loop_range (i := i) (n := n) (g := g) (fun k ρ => ρ = s k) (fun k ρ hk e => ⟨s (k + 1), by rw [e]; exact h k hk, rfl⟩) (ρ := s 0) rfl
  rw [e1, e2]
/-- a loop over the items, a name in slot i -/
theorem loop_items {i : Nat} {g : SemS} {ds : List Da} (I : Nat → Rho → Prop) (h : ∀ k d ρ, ds[k]? = some d → I k ρ → ∃ ρ', g (ρ.set i (.sh d)) = .nx ρ' ∧ I (k + 1) ρ') {ρ : Rho} (h0 : I 0 ρ) :
    ∃ ρ', loopF [i] un1 g ds ρ = .nx ρ' ∧ I ds.length ρ' := by
  have := loopF_ix (is := [i]) (un := un1) (g := g) I (ds := ds) (b := 0) (fun k d ρ hd hI => by
    rw [Nat.zero_add] at hI ⊢
    obtain ⟨ρ', e1, e2⟩ := h k d ρ hd hI
    exact ⟨[d], ρ', rfl, rfl, .inl e1, e2⟩) h0
  rw [Nat.zero_add] at this
  exact this
/-! ### == of squares -/
theorem eqL_ints : ∀ {xs ys : List Int} {n : Nat}, eqL (eqF n) (xs.map Da.int) (ys.map Da.int) = decide (xs = ys)
  | [], [], _ => rfl
  | [], _ :: _, _ => rfl
  | _ :: _, [], _ => rfl
  | x :: xs, y :: ys, n => by
    rw [List.map_cons, List.map_cons, eqL, eqL_ints]
    have : eqF n (.int x) (.int y) = (x == y) := by cases n <;> rfl
    rw [this]
    by_cases h : x = y <;> by_cases h2 : xs = ys <;> simp [h, h2]
theorem eqL_rows : ∀ {xs ys : List (List Int)} {n : Nat}, eqL (eqF (n + 1)) (xs.map fun r => Da.lst (r.map .int)) (ys.map fun r => Da.lst (r.map .int)) = decide (xs = ys)
  | [], [], _ => rfl
  | [], _ :: _, _ => rfl
  | _ :: _, [], _ => rfl
  | x :: xs, y :: ys, n => by
    rw [List.map_cons, List.map_cons, eqL, eqL_rows]
    have : eqF (n + 1) (.lst (x.map .int)) (.lst (y.map .int)) = decide (x = y) := eqL_ints
    rw [this]
    by_cases h : x = y <;> by_cases h2 : xs = ys <;> simp [h, h2]
theorem fits_int {n : Nat} {i : Int} : fits n (.int i) = true := by cases n <;> rfl
theorem fits_ints {xs : List Int} {n : Nat} : fits (n + 1) (.lst (xs.map .int)) = true := by
  show (xs.map Da.int).all (fits n) = true
  rw [List.all_eq_true]
  intro d hd
  obtain ⟨i, _, rfl⟩ := List.mem_map.mp hd
  exact fits_int
theorem fits_dM {xss : List (List Int)} {n : Nat} : fits (n + 2) (dM xss) = true := by
  show (xss.map fun r => Da.lst (r.map .int)).all (fits (n + 1)) = true
  rw [List.all_eq_true]
  intro d hd
  obtain ⟨r, _, rfl⟩ := List.mem_map.mp hd
  exact fits_ints
theorem kEq_ints {xs ys : List Int} : kEq (.lst (xs.map .int)) (.lst (ys.map .int)) = some (.sh (.bl (decide (xs = ys)))) := by
  unfold kEq
  rw [show nrm (.lst (xs.map Da.int)) = .lst (xs.map .int) from rfl, show nrm (.lst (ys.map Da.int)) = .lst (ys.map .int) from rfl, fits_ints, fits_ints]
  simp only [Bool.and_self, if_true]
  rw [show eqF 8 (.lst (xs.map .int)) (.lst (ys.map .int)) = decide (xs = ys) from eqL_ints]
theorem kNe_ints {xs ys : List Int} : kNe (.lst (xs.map .int)) (.lst (ys.map .int)) = some (.sh (.bl (!decide (xs = ys)))) := by
  unfold kNe
  rw [show nrm (.lst (xs.map Da.int)) = .lst (xs.map .int) from rfl, show nrm (.lst (ys.map Da.int)) = .lst (ys.map .int) from rfl, fits_ints, fits_ints]
  simp only [Bool.and_self, if_true]
  rw [show eqF 8 (.lst (xs.map .int)) (.lst (ys.map .int)) = decide (xs = ys) from eqL_ints]
theorem kEq_dM {xs ys : List (List Int)} : kEq (dM xs) (dM ys) = some (.sh (.bl (decide (xs = ys)))) := by
  unfold kEq
  rw [show nrm (dM xs) = dM xs from rfl, show nrm (dM ys) = dM ys from rfl, fits_dM, fits_dM]
  simp only [Bool.and_self, if_true]
  rw [show eqF 8 (dM xs) (dM ys) = decide (xs = ys) from eqL_rows]
theorem kNe_dM {xs ys : List (List Int)} : kNe (dM xs) (dM ys) = some (.sh (.bl (!decide (xs = ys)))) := by
  unfold kNe
  rw [show nrm (dM xs) = dM xs from rfl, show nrm (dM ys) = dM ys from rfl, fits_dM, fits_dM]
  simp only [Bool.and_self, if_true]
  rw [show eqF 8 (dM xs) (dM ys) = decide (xs = ys) from eqL_rows]
theorem asL_dM {xss : List (List Int)} : asL (dM xss) = some (xss.map fun r => .lst (r.map .int)) := rfl
theorem kLen_dM {xss : List (List Int)} : kLen [dM xss] = some (.sh (.int xss.length)) := by
  show some (Sl.sh (Da.int ((xss.map fun r => Da.lst (r.map .int)).length : Int))) = _
  rw [List.length_map]
theorem kLen_ints {xs : List Int} : kLen [.lst (xs.map .int)] = some (.sh (.int xs.length)) := by rw [kLen_lst, List.length_map]
theorem kIx_dM {xss : List (List Int)} {k : Nat} {xs : List Int} (h : xss[k]? = some xs) : kIx (dM xss) (.int (k : Int)) = some (.sh (.lst (xs.map .int))) := by
  show (atI (xss.map fun r => Da.lst (r.map .int)) (k : Int)).map Sl.sh = _
  rw [atI_nat (v := .lst (xs.map .int)) (by rw [List.getElem?_map, h]; rfl)]
  rfl
theorem kIx_intN {xs : List Int} {k : Nat} {x : Int} (h : xs[k]? = some x) : kIx (.lst (xs.map .int)) (.int (k : Int)) = some (.sh (.int x)) := by
  show (atI (xs.map Da.int) (k : Int)).map Sl.sh = _
  rw [atI_nat (v := .int x) (by rw [List.getElem?_map, h]; rfl)]
  rfl
end G6
namespace G6
open PySem PySem.Spec PyProof.Rows L2
/-! ### squares and their lines -/
def Sq (xss : List (List Int)) (n : Nat) : Prop := xss.length = n ∧ ∀ r ∈ xss, r.length = n
def ent (xss : List (List Int)) (r c : Nat) : Int := (xss[r]?.getD [])[c]?.getD 0
inductive Ln where
  | row (k : Nat) | col (k : Nat) | down | up
def lnD : Ln → Da
  | .row k => .tup [.str "row", .int (k : Int)]
  | .col k => .tup [.str "column", .int (k : Int)]
  | .down => .tup [.str "down", .int 0]
  | .up => .tup [.str "up", .int 0]
def lns (n : Nat) : List Ln := (List.range n).map .row ++ (List.range n).map .col ++ [.down, .up]
theorem lns_len (n : Nat) : (lns n).length = 2 * n + 2 := by
  unfold lns
  simp only [List.length_append, List.length_map, List.length_range, List.length_cons, List.length_nil]
  omega
theorem row_mem {n a : Nat} (h : Ln.row a ∈ lns n) : a < n := by
  unfold lns at h
  simp only [List.mem_append, List.mem_map, List.mem_range, List.mem_cons, List.not_mem_nil, Ln.row.injEq, reduceCtorEq, or_false, and_false, exists_false, exists_eq_right] at h
  exact h
theorem col_mem {n a : Nat} (h : Ln.col a ∈ lns n) : a < n := by
  unfold lns at h
  simp only [List.mem_append, List.mem_map, List.mem_range, List.mem_cons, List.not_mem_nil, Ln.col.injEq, reduceCtorEq, or_false, false_or, and_false, exists_false, exists_eq_right] at h
  exact h
def lterm (xss : List (List Int)) (n : Nat) : Ln → Nat → Int
  | .row k, s => ent xss k s
  | .col k, s => ent xss s k
  | .down, s => ent xss s s
  | .up, s => ent xss (n - 1 - s) s
def psum (xss : List (List Int)) (n : Nat) (l : Ln) : Nat → Int
  | 0 => 0
  | k + 1 => psum xss n l k + lterm xss n l k
def lsum (xss : List (List Int)) (n : Nat) (l : Ln) : Int := psum xss n l n
theorem psum_succ {xss : List (List Int)} {n : Nat} {l : Ln} {k : Nat} : psum xss n l (k + 1) = psum xss n l k + lterm xss n l k := rfl
theorem psum_zero {xss : List (List Int)} {n : Nat} {l : Ln} : psum xss n l 0 = 0 := rfl
theorem Sq.ent {xss : List (List Int)} {n r c : Nat} (h : Sq xss n) (hr : r < n) (hc : c < n) : ∃ row, xss[r]? = some row ∧ row[c]? = some (G6.ent xss r c) := by
  have h1 : r < xss.length := by rw [h.1]; exact hr
  have h2 : c < (xss[r]).length := by rw [h.2 _ (List.getElem_mem h1)]; exact hc
  refine ⟨xss[r], List.getElem?_eq_getElem h1, ?_⟩
  unfold G6.ent
  rw [List.getElem?_eq_getElem h1, Option.getD_some, List.getElem?_eq_getElem h2]
  rfl
theorem tb_sq {n : Nat} {f : Nat → Nat → Int} : Sq (tb n n f) n := by
  refine ⟨tb_len, fun r hr => ?_⟩
  unfold tb at hr
  obtain ⟨k, _, rfl⟩ := List.mem_map.mp hr
  rw [List.length_map, List.length_range]
theorem tb_ent {n m r c : Nat} {f : Nat → Nat → Int} (hr : r < n) (hc : c < m) : ent (tb n m f) r c = f r c := by
  unfold ent
  rw [tb_row hr, Option.getD_some, List.getElem?_map, List.getElem?_range hc]
  rfl
theorem Sq.tb {xss : List (List Int)} {n : Nat} (h : Sq xss n) : xss = tb n n (G6.ent xss) := by
  refine List.ext_getElem? fun r => ?_
  by_cases hr : r < n
  · have h1 : r < xss.length := by rw [h.1]; exact hr
    rw [tb_row hr, List.getElem?_eq_getElem h1]
    congr 1
    refine List.ext_getElem? fun c => ?_
    by_cases hc : c < n
    · obtain ⟨row, e1, e2⟩ := h.ent hr hc
      rw [List.getElem?_eq_getElem h1] at e1
      cases e1
      rw [e2, List.getElem?_map, List.getElem?_range hc]
      rfl
    · rw [List.getElem?_eq_none (by rw [h.2 _ (List.getElem_mem h1)]; omega), List.getElem?_eq_none (by rw [List.length_map, List.length_range]; omega)]
  · rw [List.getElem?_eq_none (by rw [h.1]; omega), List.getElem?_eq_none (by rw [tb_len]; omega)]
theorem kEq_sb {i j : Str} {b : Bool} (h : (PyData.strOk i && (PyData.strOk j && ((i == j) == b))) = true) : kEq (.str i) (.str j) = some (.sh (.bl b)) := by
  rw [Bool.and_eq_true, Bool.and_eq_true] at h
  rw [kEq_str h.1 h.2.1, beq_iff_eq.mp h.2.2]
theorem s_rr : kEq (.str "row") (.str "row") = some (.sh (.bl true)) := kEq_sb (by decide +kernel)
theorem s_cr : kEq (.str "column") (.str "row") = some (.sh (.bl false)) := kEq_sb (by decide +kernel)
theorem s_cc : kEq (.str "column") (.str "column") = some (.sh (.bl true)) := kEq_sb (by decide +kernel)
theorem s_dr : kEq (.str "down") (.str "row") = some (.sh (.bl false)) := kEq_sb (by decide +kernel)
theorem s_dc : kEq (.str "down") (.str "column") = some (.sh (.bl false)) := kEq_sb (by decide +kernel)
theorem s_dd : kEq (.str "down") (.str "down") = some (.sh (.bl true)) := kEq_sb (by decide +kernel)
theorem s_ur : kEq (.str "up") (.str "row") = some (.sh (.bl false)) := kEq_sb (by decide +kernel)
theorem s_uc : kEq (.str "up") (.str "column") = some (.sh (.bl false)) := kEq_sb (by decide +kernel)
theorem s_ud : kEq (.str "up") (.str "down") = some (.sh (.bl false)) := kEq_sb (by decide +kernel)
theorem kIsi_lst {xs : List Da} : kIsi .list (.lst xs) = some (.sh (.bl true)) := rfl
theorem kIsi_dM {xs : List (List Int)} : kIsi .list (dM xs) = some (.sh (.bl true)) := rfl
theorem kEq_nil {xs : List (List Int)} : kEq (dM xs) (.lst []) = some (.sh (.bl (decide (xs = [])))) := kEq_dM (ys := [])
theorem asBls_true {α : Type} : ∀ l : List α, asBls (l.map fun _ => Da.bl true) = some (l.map fun _ => true)
  | [] => rfl
  | x :: l => by rw [List.map_cons, asBls, asBls_true l]; rfl
theorem kAll_true {α : Type} {l : List α} : kAll [.lst (l.map fun _ => .bl true)] = some (.sh (.bl true)) := by
  unfold kAll bls1
  simp only [asL, Option.bind, asBls_true, Option.map]
  have : (l.map fun _ => true).all id = true := by simp
  rw [this]
theorem kAll_bls {bs : List Bool} : kAll [.lst (bs.map .bl)] = some (.sh (.bl (bs.all id))) := by
  unfold kAll bls1
  simp only [asL, Option.bind, asBls_bls, Option.map]
theorem kAny_bls {bs : List Bool} : kAny [.lst (bs.map .bl)] = some (.sh (.bl (bs.any id))) := by
  unfold kAny bls1
  simp only [asL, Option.bind, asBls_bls, Option.map]
end G6

namespace G6
open PySem PySem.Spec PyProof.Rows L2
theorem ixN_nat {n k : Nat} (h : k < n) : ixN n (k : Int) = some k := by
  unfold ixN
  rw [if_pos (by omega), if_pos (by omega), Int.toNat_natCast]
def upd2 (f : Nat → Nat → Int) (r c : Nat) (v : Int) : Nat → Nat → Int := fun a b => if a = r ∧ b = c then v else f a b
theorem dD_tb {n m : Nat} {f : Nat → Nat → Int} : dD (tb n m f) = (List.range n).map fun r => (List.range m).map fun c => Da.int (f r c) := by
  unfold dD tb
  rw [List.map_map]
  refine List.map_congr_left fun r _ => ?_
  show ((List.range m).map fun c => f r c).map Da.int = _
  rw [List.map_map]
  rfl
theorem set_map_range {α : Type} {n r : Nat} {f : Nat → α} {v : α} : ((List.range n).map f).set r v = (List.range n).map fun a => if a = r then v else f a := by
  refine List.ext_getElem? fun a => ?_
  rw [List.getElem?_set, List.getElem?_map, List.getElem?_map, List.length_map, List.length_range]
  by_cases ha : a < n
  · rw [List.getElem?_range ha]
    by_cases e : r = a
    · subst e
      simp [ha]
    · rw [if_neg e]
      show some (f a) = some (if a = r then v else f a)
      rw [if_neg (Ne.symm e)]
  · rw [List.getElem?_eq_none (l := List.range n) (by rw [List.length_range]; omega)]
    by_cases e : r = a
    · subst e
      rw [if_pos rfl, if_neg ha]
      rfl
    · rw [if_neg e]
      rfl
theorem put2_tb {n r c : Nat} {f : Nat → Nat → Int} {v : Int} (hr : r < n) (hc : c < n) : put2 (dD (tb n n f)) (r : Int) (c : Int) (.int v) = some (dD (tb n n (upd2 f r c v))) := by
  unfold put2
  rw [dD_len, tb_len, ixN_nat hr]
  dsimp only
  rw [dD_tb, List.getElem?_map, List.getElem?_range hr]
  show (match ixN ((List.range n).map fun c => Da.int (f r c)).length (c : Int) with | none => none | some j2 => some (((List.range n).map fun r => (List.range n).map fun c => Da.int (f r c)).set r (((List.range n).map fun c => Da.int (f r c)).set j2 (.int v)))) = _
  rw [List.length_map, List.length_range, ixN_nat hc]
  dsimp only
  rw [set_map_range, set_map_range, dD_tb]
  congr 1
  refine List.map_congr_left fun a _ => ?_
  by_cases e : a = r
  · rw [if_pos e]
    refine List.map_congr_left fun b _ => ?_
    unfold upd2
    by_cases e2 : b = c
    · rw [if_pos e2, if_pos ⟨e, e2⟩]
    · rw [if_neg e2, if_neg fun z => e2 z.2, e]
  · rw [if_neg e]
    refine List.map_congr_left fun b _ => ?_
    unfold upd2
    rw [if_neg fun z => e z.1]
theorem sPutII_ok {i : Nat} {full : Bool} {f f1 f2 : Sem1} {ρ : Rho} {d : Da} {xss yss : List (List Da)} {k1 k2 : Int} (h : dat (stf full f ρ) = .ok d) (hi : ρ[i]? = some (.ow2 xss)) (h1 : dat (f1 ρ) = .ok (.int k1)) (h2 : dat (f2 ρ) = .ok (.int k2)) (hp : put2 xss k1 k2 d = some yss) :
    sPutII i full f f1 f2 ρ = .nx (ρ.set i (.ow2 yss)) := by
  unfold sPutII
  rw [h]
  dsimp only
  rw [hi, h1, h2]
  dsimp only
  rw [hp]
theorem sAlias_ok {i l : Nat} {f f1 f2 : Sem1} {ρ : Rho} {n : Int} {xss yss : List (List Da)} {k1 k2 : Int} (hi : ρ[i]? = some (.ow2 xss)) (h1 : dat (f1 ρ) = .ok (.int k1)) (h2 : dat (f2 (ρ.set l .dead)) = .ok (.int k2)) (h : dat (f (ρ.set l .dead)) = .ok (.int n))
    (hil : ¬ i = l) (hll : l < ρ.length) (hp : put2 xss k1 k2 (.int n) = some yss) : sAlias i l f1 f2 f ρ = .nx ((ρ.set i (.ow2 yss)).set l .dead) := by
  unfold sAlias
  rw [hi, h1, h2, h]
  dsimp only
  rw [if_neg (fun z => z.elim hil (fun w => w hll)), hp]
theorem sApp_ok {i : Nat} {full : Bool} {f : Sem1} {ρ : Rho} {d : Da} {xs : List Da} (hi : ρ[i]? = some (.ow xs)) (hz : xs.length ≤ 1000000) (h : dat (stf full f ρ) = .ok d) : sApp i full f ρ = .nx (ρ.set i (.ow (xs ++ [d]))) := by
  unfold sApp
  rw [hi]
  dsimp only
  rw [if_pos hz, h]
theorem sExt_ok {i : Nat} {full : Bool} {f : Sem1} {ρ : Rho} {xs ys : List Da} (hi : ρ[i]? = some (.ow xs)) (h : dat (stf full f ρ) = .ok (.lst ys)) (hz : xs.length + ys.length ≤ 1000000) : sExt i full f ρ = .nx (ρ.set i (.ow (xs ++ ys))) := by
  unfold sExt
  rw [hi]
  dsimp only
  rw [h]
  dsimp only
  rw [if_pos hz]
theorem sMove_ok {i j : Nat} {ρ : Rho} {s : Sl} {xs : List Da} {xss : List (List Da)} (hij : ¬ i = j) (hi : ρ[i]? = some s) (hs : as2 s = some xss) (hj : ρ[j]? = some (.ow xs)) (hz : xss.length ≤ 1000000) : sMove i j ρ = .nx ((ρ.set i (.ow2 (xss ++ [xs]))).set j .dead) := by
  unfold sMove
  rw [if_neg hij, hi, hj]
  dsimp only
  rw [hs]
  dsimp only
  rw [if_pos hz]
theorem rep_flat {α : Type} (x : α) : ∀ n : Nat, (List.replicate n [x]).flatten = List.replicate n x
  | 0 => rfl
  | n + 1 => by rw [List.replicate_succ, List.flatten_cons, rep_flat x n]; rfl
theorem kRep_ok {x : Da} {n : Nat} (h : n ≤ 1000) : kRep (.lst [x]) (.int (n : Int)) = some (.ow (List.replicate n x)) := by
  unfold kRep
  dsimp only
  rw [if_pos ⟨by omega, by omega, by simp⟩, Int.toNat_natCast, rep_flat]
theorem map_const_range {α : Type} (x : α) (n : Nat) : ((List.range n).map fun _ => x) = List.replicate n x := by
  rw [List.map_const', List.length_range]
theorem sep_bl {b : Bool} : sep (.sh (.bl b)) = true := rfl
theorem kSorted_ints {ns : List Int} : kSorted [.lst (ns.map .int)] = some (.ow ((isort ns).map .int)) := by
  unfold kSorted ints1
  simp only [asL, Option.bind, asInts_ints, Option.map]
theorem eListR_ok {fs : Rho → Rs (List Da)} {ρ : Rho} {a b : Int} (h : fs ρ = .ok [.int a, .int b]) (h1 : 0 ≤ a) (h2 : a ≤ 1000000) (h3 : -1000000 ≤ b) (h4 : b ≤ 1000000) : eListR fs ρ = .ok (.ow (rngD a (b - a).toNat)) := by
  unfold eListR
  rw [h]
  show (if 0 ≤ a ∧ a ≤ 1000000 ∧ -1000000 ≤ b ∧ b ≤ 1000000 then _ else _) = _
  rw [if_pos ⟨h1, h2, h3, h4⟩]
end G6
namespace G6
open PySem PySem.Spec PyProof.Rows L2
theorem kNe_dM_self {xs : List (List Int)} : kNe (dM xs) (dM xs) = some (.sh (.bl false)) := by rw [kNe_dM, decide_eq_true rfl]; rfl
theorem kEq_dM_self {xs : List (List Int)} : kEq (dM xs) (dM xs) = some (.sh (.bl true)) := by rw [kEq_dM, decide_eq_true rfl]
theorem kNe_ints_self {xs : List Int} : kNe (.lst (xs.map .int)) (.lst (xs.map .int)) = some (.sh (.bl false)) := by rw [kNe_ints, decide_eq_true rfl]; rfl
theorem kNotB_tt : kNotB (.bl true) (.bl true) = some (.sh (.bl false)) := rfl
theorem cut_1 {α : Type} {a : α} {l : List α} : cut (a :: l) (some 1) none = l := by
  unfold cut
  rw [show HT.sIx (a :: l).length 0 (some 1) = min 1 (a :: l).length from HT.sIx_nat (a :: l).length 0 1, HT.sIx_none]
  have : min 1 (a :: l).length = 1 := by rw [List.length_cons]; omega
  rw [this]
  show List.take ((a :: l).length - 1) l = l
  rw [List.length_cons, Nat.add_sub_cancel, List.take_length]
theorem sAppI_ok {i : Nat} {f1 f : Sem1} {ρ : Rho} {k1 n : Int} {xss yss : List (List Da)} (hi : ρ[i]? = some (.ow2 xss)) (h1 : dat (f1 ρ) = .ok (.int k1)) (h : dat (f ρ) = .ok (.int n)) (hp : app2 xss k1 (.int n) = some yss) : sAppI i f1 f ρ = .nx (ρ.set i (.ow2 yss)) := by
  unfold sAppI
  rw [hi, h1, h]
  dsimp only
  rw [hp]
theorem app2_0 {x : List Da} {xss : List (List Da)} {d : Da} (h : x.length ≤ 1000000) : app2 (x :: xss) 0 d = some ((x ++ [d]) :: xss) := by
  unfold app2
  rw [show ixN (x :: xss).length 0 = some 0 from ixN_nat (n := (x :: xss).length) (k := 0) (by simp)]
  dsimp only
  rw [List.getElem?_cons_zero]
  dsimp only
  rw [if_pos h]
  rfl
theorem sPop_ok {i : Nat} {ρ : Rho} {x : List Da} {xss : List (List Da)} (hi : ρ[i]? = some (.ow2 (x :: xss))) : sPop i ρ = .nx (ρ.set i (.ow2 (x :: xss).dropLast)) := by
  unfold sPop
  rw [hi]
theorem slN_dM1 {x : List Int} {xs : List (List Int)} : slN (some 1) none (dM (x :: xs)) = .ok (.ow (xs.map fun r => Da.lst (r.map .int))) := by
  show Rs.ok (Sl.ow (cut (Da.lst (x.map .int) :: xs.map fun r => Da.lst (r.map .int)) (some 1) none)) = _
  rw [cut_1]
theorem slN_1 {x : Da} {xs : List Da} : slN (some 1) none (.lst (x :: xs)) = .ok (.ow xs) := by
  rw [slN_lst, cut_1]
end G6
namespace G6
open PySem PySem.Spec PyProof.Rows L2
theorem sep_int {i : Int} : sep (.sh (.int i)) = true := rfl
theorem sPutI_ok {i : Nat} {full : Bool} {f f1 : Sem1} {ρ : Rho} {d : Da} {xs : List Da} {k : Int} {j : Nat} (h : dat (stf full f ρ) = .ok d) (hi : ρ[i]? = some (.ow xs)) (h1 : dat (f1 ρ) = .ok (.int k)) (hp : ixN xs.length k = some j) : sPutI i full f f1 ρ = .nx (ρ.set i (.ow (xs.set j d))) := by
  unfold sPutI
  rw [h]
  dsimp only
  rw [hi, h1]
  dsimp only
  rw [hp]
theorem ixN_int {n : Nat} {k : Int} (h0 : 0 ≤ k) (h1 : k < n) : ixN n k = some k.toNat := by
  unfold ixN
  rw [if_pos h0, if_pos h1]
theorem kNe_ints_nil {xs : List Int} : kNe (.lst (xs.map .int)) (.lst []) = some (.sh (.bl (!decide (xs = [])))) := kNe_ints (ys := [])
theorem kList_lst {xs : List Da} : kList [.lst xs] = some (.ow xs) := rfl
theorem kIx_tup3 {x y z w : Da} {xs : List Da} : kIx (.tup (x :: y :: z :: w :: xs)) (.int 3) = some (.sh w) := by
  show (atI (x :: y :: z :: w :: xs) 3).map Sl.sh = _
  rw [show (3 : Int) = ((3 : Nat) : Int) from rfl, atI_nat (v := w) rfl]; rfl
theorem dD_append {a b : List (List Int)} : dD (a ++ b) = dD a ++ dD b := by unfold dD; rw [List.map_append]
/-- small numbers -/
def Sm (xss : List (List Int)) : Prop := ∀ r ∈ xss, ∀ z ∈ r, -10 ^ 25 ≤ z ∧ z ≤ 10 ^ 25
theorem as2_ow2 {s : Sl} {xss : List (List Da)} (h : as2 s = some xss) (hn : xss ≠ []) : s = .ow2 xss := by
  unfold as2 at h
  split at h
  · cases h; exact absurd rfl hn
  · cases h; rfl
  · cases h
end G6

namespace G6
open PySem PySem.Spec PyProof.Rows L2
/-! ### squares by their places -/
def rowD (n : Nat) (g : Nat → Int) : Da := .lst ((List.range n).map fun c => Da.int (g c))
theorem rowD_eq {n : Nat} {g : Nat → Int} : Da.lst (((List.range n).map g).map .int) = rowD n g := by
  unfold rowD; rw [List.map_map]; rfl
theorem dM_tb {n m : Nat} {f : Nat → Nat → Int} : dM (tb n m f) = .lst ((List.range n).map fun r => rowD m (f r)) := by
  unfold dM tb
  rw [List.map_map]
  congr 1
  exact List.map_congr_left fun r _ => rowD_eq
theorem dD_tb' {n m : Nat} {f : Nat → Nat → Int} : dD (tb n m f) = (List.range n).map fun r => (List.range m).map fun c => Da.int (f r c) := dD_tb
theorem kIx_rowD {n k : Nat} {g : Nat → Int} (h : k < n) : kIx (rowD n g) (.int (k : Int)) = some (.sh (.int (g k))) := by
  rw [← rowD_eq]
  exact kIx_intN (by rw [List.getElem?_map, List.getElem?_range h]; rfl)
theorem asL_rowD {n : Nat} {g : Nat → Int} : asL (rowD n g) = some ((List.range n).map fun c => Da.int (g c)) := rfl
theorem asL_dMtb {n m : Nat} {f : Nat → Nat → Int} : asL (dM (tb n m f)) = some ((List.range n).map fun r => rowD m (f r)) := by rw [dM_tb]; rfl
theorem kLen_dMtb {n m : Nat} {f : Nat → Nat → Int} : kLen [dM (tb n m f)] = some (.sh (.int (n : Int))) := by rw [kLen_dM, tb_len]
theorem kList_rowD {n : Nat} {g : Nat → Int} : kList [rowD n g] = some (.ow ((List.range n).map fun c => Da.int (g c))) := rfl
theorem rev_map_range {α : Type} (n : Nat) (g : Nat → α) : ((List.range n).map g).reverse = (List.range n).map fun c => g (n - 1 - c) := by
  refine List.ext_getElem? fun k => ?_
  by_cases hk : k < n
  · rw [List.getElem?_reverse (by rw [List.length_map, List.length_range]; exact hk), List.getElem?_map, List.getElem?_map, List.length_map, List.length_range, List.getElem?_range hk, List.getElem?_range (by omega)]
    rfl
  · rw [List.getElem?_eq_none (by rw [List.length_reverse, List.length_map, List.length_range]; omega), List.getElem?_eq_none (by rw [List.length_map, List.length_range]; omega)]
theorem pairs_range {n : Nat} {g h : Nat → Da} : pairs ((List.range n).map g) ((List.range n).map h) = (List.range n).map fun k => Da.tup [g k, h k] := by
  unfold pairs
  rw [List.zipWith_map, List.zipWith_self]
theorem range_mul {α : Type} (m : Nat) (hm : 0 < m) (F : Nat → Nat → α) : ∀ n : Nat, ((List.range n).map fun i => (List.range m).map fun j => F i j).flatten = (List.range (n * m)).map fun R => F (R / m) (R % m)
  | 0 => by simp
  | n + 1 => by
    rw [List.range_succ, List.map_append, List.flatten_append, range_mul m hm F n, Nat.add_mul, Nat.one_mul, List.range_add, List.map_append]
    congr 1
    rw [List.map_cons, List.map_nil, List.flatten_singleton, List.map_map]
    refine List.map_congr_left fun j hj => ?_
    have hj := List.mem_range.mp hj
    show F n j = F ((n * m + j) / m) ((n * m + j) % m)
    rw [Nat.mul_comm n m, Nat.mul_add_div hm, Nat.div_eq_of_lt hj, Nat.add_zero, Nat.mul_add_mod, Nat.mod_eq_of_lt hj]
/-! ways -/
def walk1 (n : Nat) (p : Nat × Nat) : Nat × Nat := (n - 1 - p.2, p.1)
def walkK (n : Nat) : Nat → Nat × Nat → Nat × Nat
  | 0, p => p
  | k + 1, p => walkK n k (walk1 n p)
theorem walkK_out (n : Nat) : ∀ (k : Nat) (p : Nat × Nat), walkK n (k + 1) p = walk1 n (walkK n k p)
  | 0, _ => rfl
  | k + 1, p => by
    show walkK n (k + 1) (walk1 n p) = _
    rw [walkK_out n k (walk1 n p)]
    rfl
theorem walkK_lt {n : Nat} : ∀ (k : Nat) (p : Nat × Nat), p.1 < n → p.2 < n → (walkK n k p).1 < n ∧ (walkK n k p).2 < n
  | 0, _, h1, h2 => ⟨h1, h2⟩
  | k + 1, p, h1, h2 => walkK_lt k (walk1 n p) (by show n - 1 - p.2 < n; omega) h1
def wayT (f : Nat → Nat → Int) (w : Nat) : Nat → Nat → Int := if w > 3 then fun r c => f c r else f
def turnF (n : Nat) (f : Nat → Nat → Int) (w : Nat) : Nat → Nat → Int := fun r c => wayT f w (walkK n (w % 4) (r, c)).1 (walkK n (w % 4) (r, c)).2
def backW (w : Nat) : Nat := if 0 < w ∧ w < 4 then 4 - w else w
theorem turn_back {n : Nat} {f : Nat → Nat → Int} {w : Nat} (hw : w < 8) : tb n n (turnF n (turnF n f w) (backW w)) = tb n n f := by
  refine tb_congr fun r c hr hc => ?_
  have e1 : n - 1 - (n - 1 - r) = r := by omega
  have e2 : n - 1 - (n - 1 - c) = c := by omega
  have : w = 0 ∨ w = 1 ∨ w = 2 ∨ w = 3 ∨ w = 4 ∨ w = 5 ∨ w = 6 ∨ w = 7 := by omega
  rcases this with rfl | rfl | rfl | rfl | rfl | rfl | rfl | rfl
  · rfl
  · show f (n - 1 - (n - 1 - r)) (n - 1 - (n - 1 - c)) = f r c
    rw [e1, e2]
  · show f (n - 1 - (n - 1 - r)) (n - 1 - (n - 1 - c)) = f r c
    rw [e1, e2]
  · show f (n - 1 - (n - 1 - r)) (n - 1 - (n - 1 - c)) = f r c
    rw [e1, e2]
  · rfl
  · show f r (n - 1 - (n - 1 - c)) = f r c
    rw [e2]
  · show f (n - 1 - (n - 1 - r)) (n - 1 - (n - 1 - c)) = f r c
    rw [e1, e2]
  · show f (n - 1 - (n - 1 - r)) (n - 1 - (n - 1 - (n - 1 - (n - 1 - c)))) = f r c
    rw [e1, e2, e2]
end G6

/-! the mathematics of the made squares, no program in sight -/
namespace EvM
theorem divmod_of {n k q r : Int} (hn : 0 < n) (h : k = r + n * q) (h0 : 0 ≤ r) (h1 : r < n) : k / n = q ∧ k % n = r := (Int.ediv_emod_unique hn).mpr ⟨h.symm, h0, h1⟩
theorem emod_of {n x r : Int} (q : Int) (hn : 0 < n) (h : x = r + n * q) (h0 : 0 ≤ r) (h1 : r < n) : x % n = r := (divmod_of hn h h0 h1).2
theorem emod_eq {n x y : Int} (q : Int) (h : x = y + n * q) : x % n = y % n := by rw [h, Int.add_mul_emod_self_left]
def oddN (n r c : Int) : Int := (r + c - n / 2) % n * n + (r + 2 * c - 2 * (n / 2)) % n + 1
def oddR (n k : Int) : Int := (2 * ((k - 1) / n) - (k - 1) % n) % n
def oddC (n k : Int) : Int := (n / 2 - (k - 1) / n + (k - 1) % n) % n
section
variable {n r c k : Int}
theorem mod_r (hn : 0 < n) (x : Int) : 0 ≤ x % n ∧ x % n < n := ⟨Int.emod_nonneg x (by omega), Int.emod_lt_of_pos x hn⟩
theorem mod_q (n x : Int) : ∃ q, x % n = x + n * q := ⟨-(x / n), by have := Int.emod_add_mul_ediv x n; rw [Int.mul_neg]; omega⟩
theorem oddN_dm (hn : 0 < n) : (oddN n r c - 1) / n = (r + c - n / 2) % n ∧ (oddN n r c - 1) % n = (r + 2 * c - 2 * (n / 2)) % n := by
  obtain ⟨h1, h2⟩ := mod_r hn (r + 2 * c - 2 * (n / 2))
  refine divmod_of hn ?_ h1 h2
  unfold oddN
  rw [Int.mul_comm n]
  omega
theorem sq_le {a n : Int} (h0 : 0 ≤ a) (h1 : a < n) : 0 ≤ a * n ∧ a * n ≤ n * n - n := by
  have h2 : a * n ≤ (n - 1) * n := Int.mul_le_mul_of_nonneg_right (by omega) (by omega)
  have h3 : 0 ≤ a * n := Int.mul_nonneg h0 (by omega)
  rw [Int.sub_mul, Int.one_mul] at h2
  exact ⟨h3, h2⟩
theorem oddN_bd (hn : 0 < n) : 1 ≤ oddN n r c ∧ oddN n r c ≤ n * n := by
  obtain ⟨h1, h2⟩ := mod_r hn (r + 2 * c - 2 * (n / 2))
  obtain ⟨h3, h4⟩ := mod_r hn (r + c - n / 2)
  obtain ⟨h5, h6⟩ := sq_le h3 h4
  unfold oddN
  omega
theorem odd_back (hn : 0 < n) (hr : 0 ≤ r ∧ r < n) (hc : 0 ≤ c ∧ c < n) : oddR n (oddN n r c) = r ∧ oddC n (oddN n r c) = c := by
  obtain ⟨e1, e2⟩ := oddN_dm (n := n) (r := r) (c := c) hn
  obtain ⟨p, hp⟩ := mod_q n (r + c - n / 2)
  obtain ⟨q, hq⟩ := mod_q n (r + 2 * c - 2 * (n / 2))
  unfold oddR oddC
  rw [e1, e2]
  refine ⟨emod_of (2 * p - q) hn ?_ hr.1 hr.2, emod_of (q - p) hn ?_ hc.1 hc.2⟩
  · rw [hp, hq, Int.mul_sub, Int.mul_left_comm]; omega
  · rw [hp, hq, Int.mul_sub]; omega
theorem odd_dm (hn : 0 < n) (h1 : 1 ≤ k) (h2 : k ≤ n * n) : (0 ≤ (k - 1) / n ∧ (k - 1) / n < n) ∧ (0 ≤ (k - 1) % n ∧ (k - 1) % n < n) ∧ k - 1 = (k - 1) % n + n * ((k - 1) / n) := by
  refine ⟨⟨Int.ediv_nonneg (by omega) (by omega), Int.ediv_lt_of_lt_mul hn (by omega)⟩, mod_r hn _, ?_⟩
  have := Int.emod_add_mul_ediv (k - 1) n
  omega
theorem oddR_bd (hn : 0 < n) : 0 ≤ oddR n k ∧ oddR n k < n := mod_r hn _
theorem oddC_bd (hn : 0 < n) : 0 ≤ oddC n k ∧ oddC n k < n := mod_r hn _
theorem odd_num (hn : 0 < n) (h1 : 1 ≤ k) (h2 : k ≤ n * n) : oddN n (oddR n k) (oddC n k) = k := by
  obtain ⟨hB, hS, e⟩ := odd_dm hn h1 h2
  obtain ⟨p, hp⟩ := mod_q n (2 * ((k - 1) / n) - (k - 1) % n)
  obtain ⟨q, hq⟩ := mod_q n (n / 2 - (k - 1) / n + (k - 1) % n)
  have a1 : (oddR n k + oddC n k - n / 2) % n = (k - 1) / n := by
    unfold oddR oddC
    refine emod_of (p + q) hn ?_ hB.1 hB.2
    rw [hp, hq, Int.mul_add]; omega
  have a2 : (oddR n k + 2 * oddC n k - 2 * (n / 2)) % n = (k - 1) % n := by
    unfold oddR oddC
    refine emod_of (p + 2 * q) hn ?_ hS.1 hS.2
    rw [hp, hq, show n * (p + 2 * q) = n * p + 2 * (n * q) by rw [Int.mul_add, Int.mul_left_comm]]; omega
  unfold oddN
  rw [a1, a2, Int.mul_comm]
  omega
/-- the next number -/
theorem odd_next0 (hn : 0 < n) (h1 : 1 ≤ k) (h2 : k < n * n) (h : k % n = 0) : oddR n (k + 1) = (oddR n k + 1) % n ∧ oddC n (k + 1) = oddC n k := by
  obtain ⟨hB, hS, e⟩ := odd_dm hn h1 (by omega)
  obtain ⟨t, ht⟩ : ∃ t, k = n * t := ⟨k / n, by have := Int.emod_add_mul_ediv k n; omega⟩
  have d1 := divmod_of (n := n) (k := k - 1) (q := t - 1) (r := n - 1) hn (by rw [Int.mul_sub, Int.mul_one]; omega) (by omega) (by omega)
  have d2 := divmod_of (n := n) (k := k + 1 - 1) (q := t) (r := 0) hn (by omega) (by omega) (by omega)
  unfold oddR oddC
  rw [d1.1, d1.2, d2.1, d2.2]
  obtain ⟨p, hp⟩ := mod_q n (2 * (t - 1) - (n - 1))
  rw [hp]
  refine ⟨emod_eq (1 - p) ?_, emod_eq (-1) ?_⟩
  · rw [show n * (1 - p) = n - n * p by rw [Int.mul_sub, Int.mul_one]]; omega
  · rw [Int.mul_neg, Int.mul_one]; omega
theorem odd_next1 (hn : 0 < n) (h1 : 1 ≤ k) (h2 : k < n * n) (h : ¬ k % n = 0) : oddR n (k + 1) = (oddR n k - 1) % n ∧ oddC n (k + 1) = (oddC n k + 1) % n := by
  obtain ⟨hB, hS, e⟩ := odd_dm hn h1 (by omega)
  have hs : (k - 1) % n ≠ n - 1 := fun z => h (by
    rw [z] at e
    have : k = n * ((k - 1) / n + 1) := by rw [Int.mul_add, Int.mul_one]; omega
    rw [this, Int.mul_emod_right])
  have d2 := divmod_of (n := n) (k := k + 1 - 1) (q := (k - 1) / n) (r := (k - 1) % n + 1) hn (by omega) (by omega) (by omega)
  unfold oddR oddC
  rw [d2.1, d2.2]
  obtain ⟨p, hp⟩ := mod_q n (2 * ((k - 1) / n) - (k - 1) % n)
  obtain ⟨q, hq⟩ := mod_q n (n / 2 - (k - 1) / n + (k - 1) % n)
  rw [hp, hq]
  refine ⟨emod_eq (-p) ?_, emod_eq (-q) ?_⟩
  · rw [Int.mul_neg]; omega
  · rw [Int.mul_neg]; omega
theorem odd_one (h : 0 < n) : oddR n 1 = 0 ∧ oddC n 1 = n / 2 := by
  unfold oddR oddC
  simp only [Int.sub_self, Int.zero_ediv, Int.zero_emod, Int.mul_zero, Int.sub_zero, Int.add_zero]
  exact ⟨trivial, Int.emod_eq_of_lt (by omega) (by omega)⟩
end
/-! orders of fours -/
def back (r c : Int) : Bool := (r % 4 == c % 4) || (r % 4 + c % 4 == 3)
def fourN (n r c : Int) : Int := if back r c = true then n * n + 1 - (r * n + c + 1) else r * n + c + 1
def fourR (n k : Int) : Int := if back ((k - 1) / n) ((k - 1) % n) = true then n - 1 - (k - 1) / n else (k - 1) / n
def fourC (n k : Int) : Int := if back ((k - 1) / n) ((k - 1) % n) = true then n - 1 - (k - 1) % n else (k - 1) % n
section
variable {n r c k : Int}
theorem back_rev (h : n % 4 = 0) : back (n - 1 - r) (n - 1 - c) = back r c := by
  unfold back
  have e1 : (n - 1 - r) % 4 = 3 - r % 4 := by omega
  have e2 : (n - 1 - c) % 4 = 3 - c % 4 := by omega
  rw [e1, e2, Bool.eq_iff_iff]
  simp only [Bool.or_eq_true, beq_iff_eq]
  omega
theorem four_dm (hn : 0 < n) (hr : 0 ≤ r ∧ r < n) (hc : 0 ≤ c ∧ c < n) : (r * n + c + 1 - 1) / n = r ∧ (r * n + c + 1 - 1) % n = c :=
  divmod_of hn (by rw [Int.mul_comm]; omega) hc.1 hc.2
theorem four_dm' (hn : 0 < n) (hr : 0 ≤ r ∧ r < n) (hc : 0 ≤ c ∧ c < n) : (n * n + 1 - (r * n + c + 1) - 1) / n = n - 1 - r ∧ (n * n + 1 - (r * n + c + 1) - 1) % n = n - 1 - c :=
  divmod_of hn (by rw [Int.mul_sub, Int.mul_sub, Int.mul_one, Int.mul_comm n r]; omega) (by omega) (by omega)
theorem four_bd (hn : 0 < n) (hr : 0 ≤ r ∧ r < n) (hc : 0 ≤ c ∧ c < n) : 1 ≤ fourN n r c ∧ fourN n r c ≤ n * n := by
  obtain ⟨h1, h2⟩ := sq_le hr.1 hr.2
  unfold fourN
  split <;> omega
theorem four_back (hn : 0 < n) (h4 : n % 4 = 0) (hr : 0 ≤ r ∧ r < n) (hc : 0 ≤ c ∧ c < n) : fourR n (fourN n r c) = r ∧ fourC n (fourN n r c) = c := by
  unfold fourR fourC fourN
  by_cases hb : back r c = true
  · simp only [if_pos hb]
    obtain ⟨e1, e2⟩ := four_dm' hn hr hc
    simp only [e1, e2, back_rev h4, if_pos hb]
    omega
  · simp only [if_neg hb]
    obtain ⟨e1, e2⟩ := four_dm hn hr hc
    simp only [e1, e2, if_neg hb]
    exact ⟨trivial, trivial⟩
theorem fourR_bd (hn : 0 < n) (h1 : 1 ≤ k) (h2 : k ≤ n * n) : (0 ≤ fourR n k ∧ fourR n k < n) ∧ 0 ≤ fourC n k ∧ fourC n k < n := by
  obtain ⟨hB, hS, e⟩ := odd_dm hn h1 h2
  unfold fourR fourC
  split <;> omega
theorem four_num (hn : 0 < n) (h4 : n % 4 = 0) (h1 : 1 ≤ k) (h2 : k ≤ n * n) : fourN n (fourR n k) (fourC n k) = k := by
  obtain ⟨hB, hS, e⟩ := odd_dm hn h1 h2
  unfold fourR fourC fourN
  by_cases hb : back ((k - 1) / n) ((k - 1) % n) = true
  · simp only [if_pos hb, back_rev h4]
    rw [Int.sub_mul, Int.sub_mul, Int.one_mul, Int.mul_comm ((k - 1) / n) n]
    omega
  · simp only [if_neg hb]
    rw [Int.mul_comm ((k - 1) / n) n]
    omega
end
/-! the other even orders -/
inductive Lx where
  | L | U | X
  deriving DecidableEq
def four : Lx → List (Int × Int)
  | .L => [(0, 1), (1, 0), (1, 1), (0, 0)]
  | .U => [(0, 0), (1, 0), (1, 1), (0, 1)]
  | .X => [(0, 0), (1, 1), (1, 0), (0, 1)]
def idx (z : Lx) (i j : Int) : Int := match (four z).findIdx? (fun p => p.1 == i && p.2 == j) with
  | some k => (k : Int)
  | none => 0
def spot (z : Lx) (m : Int) : Int × Int := ((four z)[m.toNat]?).getD (0, 0)
def letX (n r c : Int) : Lx :=
  let s := if c = n / 2 ∧ (n / 2 = r ∨ n / 2 + 1 = r) then 2 * (n / 2) + 1 - r else r
  if s ≤ n / 2 then .L else if s = n / 2 + 1 then .U else .X
def luxN (n r c : Int) : Int := 4 * oddN (n / 2) (r / 2) (c / 2) - 3 + idx (letX (n / 2) (r / 2) (c / 2)) (r % 2) (c % 2)
def luxS (n k : Int) : Int × Int := spot (letX (n / 2) (oddR (n / 2) ((k + 3) / 4)) (oddC (n / 2) ((k + 3) / 4))) ((k + 3) % 4)
def luxR (n k : Int) : Int := 2 * oddR (n / 2) ((k + 3) / 4) + (luxS n k).1
def luxC (n k : Int) : Int := 2 * oddC (n / 2) ((k + 3) / 4) + (luxS n k).2
theorem spot_idx (z : Lx) {i j : Int} (hi : i = 0 ∨ i = 1) (hj : j = 0 ∨ j = 1) : spot z (idx z i j) = (i, j) ∧ 0 ≤ idx z i j ∧ idx z i j < 4 := by
  rcases hi with rfl | rfl <;> rcases hj with rfl | rfl <;> cases z <;> decide
theorem idx_spot (z : Lx) {m : Int} (h0 : 0 ≤ m) (h1 : m < 4) : idx z (spot z m).1 (spot z m).2 = m ∧ ((spot z m).1 = 0 ∨ (spot z m).1 = 1) ∧ ((spot z m).2 = 0 ∨ (spot z m).2 = 1) := by
  have : m = 0 ∨ m = 1 ∨ m = 2 ∨ m = 3 := by omega
  rcases this with rfl | rfl | rfl | rfl <;> cases z <;> decide
section
variable {n r c k : Int}
theorem lux_dm (z : Lx) (v i : Int) (h0 : 0 ≤ i) (h1 : i < 4) : (4 * v - 3 + i + 3) / 4 = v ∧ (4 * v - 3 + i + 3) % 4 = i := by omega
theorem lux_back (hn : 0 < n) (h4 : n % 4 = 2) (hr : 0 ≤ r ∧ r < n) (hc : 0 ≤ c ∧ c < n) : luxR n (luxN n r c) = r ∧ luxC n (luxN n r c) = c := by
  obtain ⟨s1, s2, s3⟩ := spot_idx (letX (n / 2) (r / 2) (c / 2)) (i := r % 2) (j := c % 2) (by omega) (by omega)
  obtain ⟨e1, e2⟩ := lux_dm (letX (n / 2) (r / 2) (c / 2)) (oddN (n / 2) (r / 2) (c / 2)) _ s2 s3
  obtain ⟨b1, b2⟩ := odd_back (n := n / 2) (r := r / 2) (c := c / 2) (by omega) (by omega) (by omega)
  unfold luxR luxC luxS luxN
  simp only [e1, e2, b1, b2, s1]
  omega
theorem lux_bd (hn : 0 < n) (h4 : n % 4 = 2) : 1 ≤ luxN n r c ∧ luxN n r c ≤ n * n := by
  obtain ⟨s1, s2, s3⟩ := spot_idx (letX (n / 2) (r / 2) (c / 2)) (i := r % 2) (j := c % 2) (by omega) (by omega)
  obtain ⟨b1, b2⟩ := oddN_bd (n := n / 2) (r := r / 2) (c := c / 2) (by omega)
  have e : n * n = 4 * (n / 2 * (n / 2)) := by
    have : n = 2 * (n / 2) := by omega
    have h : n * n = (2 * (n / 2)) * (2 * (n / 2)) := by rw [← this]
    rw [h, Int.mul_assoc, Int.mul_left_comm (n / 2) 2]
    omega
  unfold luxN
  omega
theorem lux_sq (h4 : n % 4 = 2) : n * n = 4 * (n / 2 * (n / 2)) := by
  have : n = 2 * (n / 2) := by omega
  have h : n * n = (2 * (n / 2)) * (2 * (n / 2)) := by rw [← this]
  rw [h, Int.mul_assoc, Int.mul_left_comm (n / 2) 2]
  omega
theorem lux_in (hn : 0 < n) (h4 : n % 4 = 2) (h1 : 1 ≤ k) (h2 : k ≤ n * n) : 1 ≤ (k + 3) / 4 ∧ (k + 3) / 4 ≤ n / 2 * (n / 2) := by
  have e := lux_sq h4
  omega
theorem luxR_bd (hn : 0 < n) (h4 : n % 4 = 2) : (0 ≤ luxR n k ∧ luxR n k < n) ∧ 0 ≤ luxC n k ∧ luxC n k < n := by
  obtain ⟨_, s1, s2⟩ := idx_spot (letX (n / 2) (oddR (n / 2) ((k + 3) / 4)) (oddC (n / 2) ((k + 3) / 4))) (m := (k + 3) % 4) (by omega) (by omega)
  have b1 := oddR_bd (n := n / 2) (k := (k + 3) / 4) (by omega)
  have b2 := oddC_bd (n := n / 2) (k := (k + 3) / 4) (by omega)
  unfold luxR luxC luxS
  omega
theorem lux_num (hn : 0 < n) (h4 : n % 4 = 2) (h1 : 1 ≤ k) (h2 : k ≤ n * n) : luxN n (luxR n k) (luxC n k) = k := by
  obtain ⟨i1, i2⟩ := lux_in hn h4 h1 h2
  obtain ⟨e0, s1, s2⟩ := idx_spot (letX (n / 2) (oddR (n / 2) ((k + 3) / 4)) (oddC (n / 2) ((k + 3) / 4))) (m := (k + 3) % 4) (by omega) (by omega)
  have b1 := oddR_bd (n := n / 2) (k := (k + 3) / 4) (by omega)
  have b2 := oddC_bd (n := n / 2) (k := (k + 3) / 4) (by omega)
  have b3 := odd_num (n := n / 2) (k := (k + 3) / 4) (by omega) i1 i2
  have d1 : luxR n k / 2 = oddR (n / 2) ((k + 3) / 4) := by unfold luxR luxS; omega
  have d2 : luxC n k / 2 = oddC (n / 2) ((k + 3) / 4) := by unfold luxC luxS; omega
  have d3 : luxR n k % 2 = (luxS n k).1 := by unfold luxR luxS; omega
  have d4 : luxC n k % 2 = (luxS n k).2 := by unfold luxC luxS; omega
  unfold luxN
  rw [d1, d2, d3, d4, b3]
  unfold luxS
  rw [e0]
  omega
end
/-! all orders -/
def num (n r c : Int) : Int := if n % 2 = 1 then oddN n r c else if n % 4 = 0 then fourN n r c else luxN n r c
def plR (n k : Int) : Int := if n % 2 = 1 then oddR n k else if n % 4 = 0 then fourR n k else luxR n k
def plC (n k : Int) : Int := if n % 2 = 1 then oddC n k else if n % 4 = 0 then fourC n k else luxC n k
section
variable {n r c k : Int}
theorem num_bd (hn : 0 < n) (hr : 0 ≤ r ∧ r < n) (hc : 0 ≤ c ∧ c < n) : 1 ≤ num n r c ∧ num n r c ≤ n * n := by
  unfold num
  split
  · exact oddN_bd hn
  · split
    · exact four_bd hn hr hc
    · exact lux_bd hn (by omega)
theorem num_back (hn : 0 < n) (hr : 0 ≤ r ∧ r < n) (hc : 0 ≤ c ∧ c < n) : plR n (num n r c) = r ∧ plC n (num n r c) = c := by
  unfold num plR plC
  by_cases h1 : n % 2 = 1
  · simp only [if_pos h1]; exact odd_back hn hr hc
  · simp only [if_neg h1]
    by_cases h2 : n % 4 = 0
    · simp only [if_pos h2]; exact four_back hn h2 hr hc
    · simp only [if_neg h2]; exact lux_back hn (by omega) hr hc
theorem pl_bd (hn : 0 < n) (h1 : 1 ≤ k) (h2 : k ≤ n * n) : (0 ≤ plR n k ∧ plR n k < n) ∧ 0 ≤ plC n k ∧ plC n k < n := by
  unfold plR plC
  by_cases h3 : n % 2 = 1
  · simp only [if_pos h3]; exact ⟨oddR_bd hn, oddC_bd hn⟩
  · simp only [if_neg h3]
    by_cases h4 : n % 4 = 0
    · simp only [if_pos h4]; exact fourR_bd hn h1 h2
    · simp only [if_neg h4]; exact luxR_bd hn (by omega)
theorem num_pl (hn : 0 < n) (h1 : 1 ≤ k) (h2 : k ≤ n * n) : num n (plR n k) (plC n k) = k := by
  unfold num plR plC
  by_cases h3 : n % 2 = 1
  · simp only [if_pos h3]; exact odd_num hn h1 h2
  · simp only [if_neg h3]
    by_cases h4 : n % 4 = 0
    · simp only [if_pos h4]; exact four_num hn h4 h1 h2
    · simp only [if_neg h4]; exact lux_num hn (by omega) h1 h2
end
end EvM

namespace K08
open PySem PySem.Spec PyProof.Rows L2 G6
def tab_FOUR : Str → Option Da := fun z => if z = "L" then some (.kt [.tup [.int 0, .int 1], .tup [.int 1, .int 0], .tup [.int 1, .int 1], .tup [.int 0, .int 0]]) else if z = "U" then some (.kt [.tup [.int 0, .int 0], .tup [.int 1, .int 0], .tup [.int 1, .int 1], .tup [.int 0, .int 1]]) else if z = "X" then some (.kt [.tup [.int 0, .int 0], .tup [.int 1, .int 1], .tup [.int 1, .int 0], .tup [.int 0, .int 1]]) else  none
def g_is_number : SemS := sRet false (eAnd (eUn (kIsi .int) (eVar 0)) (eNot (eUn (kIsi .bool) (eVar 0))))
def f_is_number : List Da → Rs Sl := fDef 1 g_is_number
def g_lines : SemS := sSeq (sSet 1 false (eOp kAdd (eLc (iR1 (aCons (eVar 0) (aNil))) [2] un1 [2] (eTup (aCons (eC (.str "row")) (aCons (eVar 2) (aNil))))) (eLc (iR1 (aCons (eVar 0) (aNil))) [2] un1 [2] (eTup (aCons (eC (.str "column")) (aCons (eVar 2) (aNil)))))))
    (sRet false (eOp kAdd (eVar 1) (eLst (aCons (eTup (aCons (eC (.str "down")) (aCons (eC (.int 0)) (aNil)))) (aCons (eTup (aCons (eC (.str "up")) (aCons (eC (.int 0)) (aNil)))) (aNil))))))
def f_lines : List Da → Rs Sl := fDef 3 g_lines
def g_sum_along : SemS := sSeq (sTgt [2, 3] unT false (eVar 1))
    (sSeq (sSet 4 false (eOp kSub (eCall kLen (aCons (eVar 0) (aNil))) (eC (.int 1))))
    (sSeq (sIf (fB (eOp kEq (eVar 2) (eC (.str "row"))))
    (sRet false (eCall kSum (aCons (eOp kIx (eVar 0) (eVar 3)) (aNil)))) (sNil))
    (sSeq (sIf (fB (eOp kEq (eVar 2) (eC (.str "column"))))
    (sRet false (eCall kSum (aCons (eLc (iL asL (eVar 0)) [6] un1 [6] (eOp kIx (eVar 6) (eVar 3))) (aNil)))) (sNil))
    (sSeq (sIf (fB (eOp kEq (eVar 2) (eC (.str "down"))))
    (sRet false (eCall kSum (aCons (eLc (iR1 (aCons (eOp kAdd (eVar 4) (eC (.int 1))) (aNil))) [5] un1 [5] (eOp kIx (eOp kIx (eVar 0) (eVar 5)) (eVar 5))) (aNil)))) (sNil))
    (sRet false (eCall kSum (aCons (eLc (iR1 (aCons (eOp kAdd (eVar 4) (eC (.int 1))) (aNil))) [5] un1 [5] (eOp kIx (eOp kIx (eVar 0) (eOp kSub (eVar 4) (eVar 5))) (eVar 5))) (aNil))))))))
def f_sum_along : List Da → Rs Sl := fDef 7 g_sum_along
def g_odd_number : SemS := sSeq (sSet 3 false (eOp kDiv (eVar 0) (eC (.int 2))))
    (sRet false (eOp kAdd (eOp kAdd (eOp kMul (eOp kMod (eOp kSub (eOp kAdd (eVar 1) (eVar 2)) (eVar 3)) (eVar 0)) (eVar 0)) (eOp kMod (eOp kSub (eOp kAdd (eVar 1) (eOp kMul (eC (.int 2)) (eVar 2))) (eOp kMul (eC (.int 2)) (eVar 3))) (eVar 0))) (eC (.int 1))))
def f_odd_number : List Da → Rs Sl := fDef 4 g_odd_number
def g_odd_place : SemS := sSeq (sTgt [2, 3] unT false (eCall kDivmod (aCons (eOp kSub (eVar 1) (eC (.int 1))) (aCons (eVar 0) (aNil)))))
    (sRet false (eTup (aCons (eOp kMod (eOp kSub (eOp kMul (eC (.int 2)) (eVar 2)) (eVar 3)) (eVar 0)) (aCons (eOp kMod (eOp kAdd (eOp kSub (eOp kDiv (eVar 0) (eC (.int 2))) (eVar 2)) (eVar 3)) (eVar 0)) (aNil)))))
def f_odd_place : List Da → Rs Sl := fDef 4 g_odd_place
def g_letter : SemS := sSeq (sSet 3 false (eOp kDiv (eVar 0) (eC (.int 2))))
    (sSeq (sIf (fAnd (fB (eOp kEq (eVar 2) (eVar 3))) (fB (eOp kIn (eVar 1) (eTup (aCons (eVar 3) (aCons (eOp kAdd (eVar 3) (eC (.int 1))) (aNil)))))))
    (sSet 1 false (eOp kSub (eOp kAdd (eOp kMul (eC (.int 2)) (eVar 3)) (eC (.int 1))) (eVar 1))) (sNil))
    (sRet false (eIf (fB (eOp kLe (eVar 1) (eVar 3))) (eC (.str "L")) (eIf (fB (eOp kEq (eVar 1) (eOp kAdd (eVar 3) (eC (.int 1))))) (eC (.str "U")) (eC (.str "X"))))))
def f_letter : List Da → Rs Sl := fDef 4 g_letter
def g_is_back : SemS := sRet false (eOr (eOp kEq (eOp kMod (eVar 0) (eC (.int 4))) (eOp kMod (eVar 1) (eC (.int 4)))) (eOp kEq (eOp kAdd (eOp kMod (eVar 0) (eC (.int 4))) (eOp kMod (eVar 1) (eC (.int 4)))) (eC (.int 3))))
def f_is_back : List Da → Rs Sl := fDef 2 g_is_back
def g__law_number : SemS := sSeq (sIf (fB (eOp kGe (eVar 0) (eOp kPow (eC (.int 10)) (eC (.int 18)))))
    (sRet false (eOp kDiv (eVar 0) (eOp kAdd (eC (.int 1)) (eOp kMod (eVar 1) (eC (.int 7)))))) (sNil))
    (sSeq (sSet 3 false (eOp kMod (eOp kAdd (eOp kMul (eOp kAdd (eVar 0) (eOp kMul (eC (.int 977)) (eVar 1))) (eC (.int 48271))) (eVar 2)) (eC (.int 2147483647))))
    (sSeq (sSet 4 false (eOp kMul (eVar 3) (eOp kAdd (eOp kAdd (eVar 0) (eOp kMul (eC (.int 31)) (eVar 1))) (eC (.int 7)))))
    (sRet false (eOp kDiv (eOp kMul (eOp kMul (eVar 4) (eOp kAdd (eOp kAdd (eVar 3) (eVar 0)) (eC (.int 5)))) (eOp kAdd (eOp kMul (eVar 3) (eVar 3)) (eC (.int 11)))) (eOp kAdd (eC (.int 1009)) (eVar 1))))))
def f__law_number : List Da → Rs Sl := fDef 5 g__law_number
def g__law_truths : SemS := sRet false (eCall kAll (aCons (eLc (iL asL (eVar 0)) [1] un1 [1] (eUn (kIsi .bool) (eVar 1))) (aNil)))
def f__law_truths : List Da → Rs Sl := fDef 2 g__law_truths
def gNO (c : Str) : SemS := sSeq (sSet 2 false (eLst (aCons (eUn (kIsE (c == "NotEven")) (eVar 1)) (aCons (eUn (kIsE (c == "TooGreat")) (eVar 1)) (aNil)))))
    (sRet false (eIf (fB (eOp kEq (eMth kCntB (eVar 2) (eC (.bl true))) (eC (.int 1)))) (eOp kIx (eLst (aCons (eC (.str "even")) (aCons (eC (.str "great")) (aNil)))) (eMth kIdxB (eVar 2) (eC (.bl true)))) (eC (.str "other"))))
def g_asked_square : SemS := sSeq (sIf (fOr (fNot (fB (eUn (kIsi .list) (eVar 0)))) (fB (eOp kEq (eVar 0) (eLst (aNil)))))
    (sRaise "BadSquare") (sNil))
    (sFor (iL asL (eVar 0)) [1] un1
    (sIf (fOr (fNot (fB (eUn (kIsi .list) (eVar 1)))) (fOr (fB (eOp kNe (eCall kLen (aCons (eVar 1) (aNil))) (eCall kLen (aCons (eVar 0) (aNil))))) (fNot (fB (eCall kAll (aCons (eLc (iL asL (eVar 1)) [2] un1 [2] (eFn f_is_number (aCons (eVar 2) (aNil)))) (aNil)))))))
    (sRaise "BadSquare") (sNil)))
def f_asked_square : List Da → Rs Sl := fDef 3 g_asked_square
def g_Even_shows : SemS := sRet false (eCall kAll (aCons (eLc (iL asL (eFn f_lines (aCons (eCall kLen (aCons (eVar 1) (aNil))) (aNil)))) [2] un1 [2] (eOp kEq (eFn f_sum_along (aCons (eVar 1) (aCons (eVar 2) (aNil)))) (eUn kTotal (eVar 0)))) (aNil)))
def f_Even_shows : List Da → Rs Sl := fDef 3 g_Even_shows
def g_Unlike_shows : SemS := sSeq (sSet 2 false (eFn f_lines (aCons (eCall kLen (aCons (eVar 1) (aNil))) (aNil))))
    (sSeq (sIf (fOr (fB (eOp kNotIn (eUn kOne (eVar 0)) (eVar 2))) (fB (eOp kNotIn (eUn kOther (eVar 0)) (eVar 2))))
    (sRet false (eC (.bl false))) (sNil))
    (sRet false (eOp kNe (eFn f_sum_along (aCons (eVar 1) (aCons (eUn kOne (eVar 0)) (aNil)))) (eFn f_sum_along (aCons (eVar 1) (aCons (eUn kOther (eVar 0)) (aNil)))))))
def f_Unlike_shows : List Da → Rs Sl := fDef 3 g_Unlike_shows
def g_three : SemS := sSeq (sIf (fOr (fNot (fB (eFn f_is_number (aCons (eVar 0) (aNil))))) (fOr (fNot (fB (eFn f_is_number (aCons (eVar 1) (aNil))))) (fNot (fB (eFn f_is_number (aCons (eVar 2) (aNil)))))))
    (sRaise "BadNumber") (sNil))
    (sSeq (sSet 3 false (eLst (aCons (eOp kAdd (eVar 0) (eVar 1)) (aCons (eOp kSub (eOp kSub (eVar 0) (eVar 1)) (eVar 2)) (aCons (eOp kAdd (eVar 0) (eVar 2)) (aNil))))))
    (sSeq (sSet 4 false (eLst (aCons (eOp kAdd (eOp kSub (eVar 0) (eVar 1)) (eVar 2)) (aCons (eVar 0) (aCons (eOp kSub (eOp kAdd (eVar 0) (eVar 1)) (eVar 2)) (aNil))))))
    (sRet false (eLst (aCons (eVar 3) (aCons (eVar 4) (aCons (eLst (aCons (eOp kSub (eVar 0) (eVar 2)) (aCons (eOp kAdd (eOp kAdd (eVar 0) (eVar 1)) (eVar 2)) (aCons (eOp kSub (eVar 0) (eVar 1)) (aNil))))) (aNil))))))))
def f_three : List Da → Rs Sl := fDef 5 g_three
def g_asked_order : SemS := sIf (fOr (fNot (fB (eFn f_is_number (aCons (eVar 0) (aNil))))) (fOr (fB (eOp kLt (eVar 0) (eC (.int 1)))) (fB (eOp kEq (eVar 0) (eC (.int 2))))))
    (sRaise "BadOrder") (sNil)
def f_asked_order : List Da → Rs Sl := fDef 1 g_asked_order
def g_number_of : SemS := sSeq (sIf (fB (eOp kEq (eOp kMod (eVar 0) (eC (.int 2))) (eC (.int 1))))
    (sRet false (eFn f_odd_number (aCons (eVar 0) (aCons (eVar 1) (aCons (eVar 2) (aNil)))))) (sNil))
    (sSeq (sIf (fB (eOp kEq (eOp kMod (eVar 0) (eC (.int 4))) (eC (.int 0))))
    (sSeq (sSet 7 false (eOp kAdd (eOp kAdd (eOp kMul (eVar 1) (eVar 0)) (eVar 2)) (eC (.int 1))))
    (sRet false (eIf (fB (eFn f_is_back (aCons (eVar 1) (aCons (eVar 2) (aNil))))) (eOp kSub (eOp kAdd (eOp kMul (eVar 0) (eVar 0)) (eC (.int 1))) (eVar 7)) (eVar 7)))) (sNil))
    (sSeq (sSet 3 false (eOp kDiv (eVar 0) (eC (.int 2))))
    (sSeq (sPar 4 5 (aCons (eOp kDiv (eVar 1) (eC (.int 2))) (aCons (eOp kDiv (eVar 2) (eC (.int 2))) (aNil))))
    (sSeq (sSet 6 false (eTab tab_FOUR (eFn f_letter (aCons (eVar 3) (aCons (eVar 4) (aCons (eVar 5) (aNil)))))))
    (sRet false (eOp kAdd (eOp kSub (eOp kMul (eC (.int 4)) (eFn f_odd_number (aCons (eVar 3) (aCons (eVar 4) (aCons (eVar 5) (aNil)))))) (eC (.int 3))) (eIndexT (eVar 6) (eTup (aCons (eOp kMod (eVar 1) (eC (.int 2))) (aCons (eOp kMod (eVar 2) (eC (.int 2))) (aNil)))))))))))
def f_number_of : List Da → Rs Sl := fDef 8 g_number_of
def g_whole : SemS := sSeq (sExpr (eFn f_asked_square (aCons (eVar 0) (aNil))))
    (sSeq (sOwn 1 false (eLst (aNil)))
    (sSeq (sFor (iL asL (eVar 0)) [2] un1
    (sExt 1 false (eVar 2)))
    (sRet true (eOp kEq (eCall kSorted (aCons (eVar 1) (aNil))) (eListR (aCons (eC (.int 1)) (aCons (eOp kAdd (eOp kMul (eCall kLen (aCons (eVar 0) (aNil))) (eCall kLen (aCons (eVar 0) (aNil)))) (eC (.int 1))) (aNil))))))))
def f_whole : List Da → Rs Sl := fDef 3 g_whole
def g_turned : SemS := sSeq (sExpr (eFn f_asked_square (aCons (eVar 0) (aNil))))
    (sSeq (sIf (fOr (fNot (fB (eFn f_is_number (aCons (eVar 1) (aNil))))) (fNot (fB (eCh kLe kLt (eC (.int 0)) (eVar 1) (eC (.int 8))))))
    (sRaise "BadNumber") (sNil))
    (sSeq (sOwn 2 false (eLc2 (iL asL (eVar 0)) [4] un1 [4] (eCall kList (aCons (eVar 4) (aNil)))))
    (sSeq (sIf (fB (eOp kGt (eVar 1) (eC (.int 3))))
    (sOwn 2 true (eLc2 (iR1 (aCons (eCall kLen (aCons (eVar 2) (aNil))) (aNil))) [5] un1 [5] (eLc (iL asL (eVar 2)) [4] un1 [4] (eOp kIx (eVar 4) (eVar 5))))) (sNil))
    (sSeq (sFor (iR1 (aCons (eOp kMod (eVar 1) (eC (.int 4))) (aNil))) [3] un1
    (sOwn 2 true (eLc2 (iR1 (aCons (eCall kLen (aCons (eVar 2) (aNil))) (aNil))) [5] un1 [5] (eLc (iL asL (eUn kRev (eVar 2))) [4] un1 [4] (eOp kIx (eVar 4) (eVar 5))))))
    (sRetVar 2)))))
def f_turned : List Da → Rs Sl := fDef 6 g_turned
def g_other_way : SemS := sSeq (sExpr (eFn f_asked_square (aCons (eVar 0) (aNil))))
    (sSeq (sSet 1 false (eOp kAdd (eOp kMul (eCall kLen (aCons (eVar 0) (aNil))) (eCall kLen (aCons (eVar 0) (aNil)))) (eC (.int 1))))
    (sRet false (eLc2 (iL asL (eVar 0)) [2] un1 [2] (eLc (iL asL (eVar 2)) [3] un1 [3] (eOp kSub (eVar 1) (eVar 3))))))
def f_other_way : List Da → Rs Sl := fDef 4 g_other_way
def g_put_together : SemS := sSeq (sExpr (eFn f_asked_square (aCons (eVar 0) (aNil))))
    (sSeq (sExpr (eFn f_asked_square (aCons (eVar 1) (aNil))))
    (sSeq (sIf (fB (eOp kNe (eCall kLen (aCons (eVar 0) (aNil))) (eCall kLen (aCons (eVar 1) (aNil)))))
    (sRaise "BadSquare") (sNil))
    (sSeq (sIf (fNot (fB (eFn f_is_number (aCons (eVar 2) (aNil)))))
    (sRaise "BadNumber") (sNil))
    (sRet false (eLc2 (iZip (aCons (eVar 0) (aCons (eVar 1) (aNil)))) [3, 4] unT [3, 4] (eLc (iZip (aCons (eVar 3) (aCons (eVar 4) (aNil)))) [5, 6] unT [5, 6] (eOp kAdd (eVar 5) (eOp kMul (eVar 2) (eVar 6)))))))))
def f_put_together : List Da → Rs Sl := fDef 7 g_put_together
def g_product : SemS := sSeq (sExpr (eFn f_asked_square (aCons (eVar 0) (aNil))))
    (sSeq (sExpr (eFn f_asked_square (aCons (eVar 1) (aNil))))
    (sSeq (sSet 2 false (eOp kMul (eCall kLen (aCons (eVar 1) (aNil))) (eCall kLen (aCons (eVar 1) (aNil)))))
    (sSeq (sOwn 3 false (eLst (aNil)))
    (sSeq (sFor (iL asL (eVar 0)) [4] un1
    (sFor (iL asL (eVar 1)) [5] un1
    (sSeq (sOwn 6 false (eLst (aNil)))
    (sSeq (sFor (iL asL (eVar 4)) [7] un1
    (sExt 6 false (eLc (iL asL (eVar 5)) [8] un1 [8] (eOp kAdd (eOp kMul (eOp kSub (eVar 7) (eC (.int 1))) (eVar 2)) (eVar 8)))))
    (sMove 3 6)))))
    (sRetVar 3)))))
def f_product : List Da → Rs Sl := fDef 9 g_product
def g_told : SemS := sSeq (sExpr (eFn f_asked_square (aCons (eVar 0) (aNil))))
    (sSeq (sSet 1 false (eTup (aCons (eC (.str "row")) (aCons (eC (.int 0)) (aNil)))))
    (sSeq (sSet 2 false (eFn f_sum_along (aCons (eVar 0) (aCons (eVar 1) (aNil)))))
    (sSeq (sFor (iL asL (eFn f_lines (aCons (eCall kLen (aCons (eVar 0) (aNil))) (aNil)))) [3] un1
    (sIf (fB (eOp kNe (eFn f_sum_along (aCons (eVar 0) (aCons (eVar 3) (aNil)))) (eVar 2)))
    (sRet false (eUnl (aCons (eVar 1) (aCons (eVar 3) (aNil))))) (sNil)))
    (sRet false (eEven (aCons (eVar 2) (aNil)))))))
def f_told : List Da → Rs Sl := fDef 4 g_told
def g_number_at : SemS := sSeq (sExpr (eFn f_asked_order (aCons (eVar 0) (aNil))))
    (sSeq (sFor (iL unT (eTup (aCons (eVar 1) (aCons (eVar 2) (aNil))))) [3] un1
    (sIf (fOr (fNot (fB (eFn f_is_number (aCons (eVar 3) (aNil))))) (fNot (fB (eCh kLe kLt (eC (.int 0)) (eVar 3) (eVar 0)))))
    (sRaise "BadPlace") (sNil)))
    (sRet false (eFn f_number_of (aCons (eVar 0) (aCons (eVar 1) (aCons (eVar 2) (aNil)))))))
def f_number_at : List Da → Rs Sl := fDef 4 g_number_at
def g_place_of : SemS := sSeq (sExpr (eFn f_asked_order (aCons (eVar 0) (aNil))))
    (sSeq (sIf (fOr (fNot (fB (eFn f_is_number (aCons (eVar 1) (aNil))))) (fNot (fB (eCh kLe kLe (eC (.int 1)) (eVar 1) (eOp kMul (eVar 0) (eVar 0))))))
    (sRaise "BadNumber") (sNil))
    (sSeq (sIf (fB (eOp kEq (eOp kMod (eVar 0) (eC (.int 2))) (eC (.int 1))))
    (sRet false (eFn f_odd_place (aCons (eVar 0) (aCons (eVar 1) (aNil))))) (sNil))
    (sSeq (sIf (fB (eOp kEq (eOp kMod (eVar 0) (eC (.int 4))) (eC (.int 0))))
    (sSeq (sTgt [6, 7] unT false (eCall kDivmod (aCons (eOp kSub (eVar 1) (eC (.int 1))) (aCons (eVar 0) (aNil)))))
    (sRet false (eIf (fB (eFn f_is_back (aCons (eVar 6) (aCons (eVar 7) (aNil))))) (eTup (aCons (eOp kSub (eOp kSub (eVar 0) (eC (.int 1))) (eVar 6)) (aCons (eOp kSub (eOp kSub (eVar 0) (eC (.int 1))) (eVar 7)) (aNil)))) (eTup (aCons (eVar 6) (aCons (eVar 7) (aNil))))))) (sNil))
    (sSeq (sTgt [2, 3] unT false (eFn f_odd_place (aCons (eOp kDiv (eVar 0) (eC (.int 2))) (aCons (eOp kDiv (eOp kAdd (eVar 1) (eC (.int 3))) (eC (.int 4))) (aNil)))))
    (sSeq (sTgt [4, 5] unT false (eOp kIx (eTab tab_FOUR (eFn f_letter (aCons (eOp kDiv (eVar 0) (eC (.int 2))) (aCons (eVar 2) (aCons (eVar 3) (aNil)))))) (eOp kMod (eOp kAdd (eVar 1) (eC (.int 3))) (eC (.int 4)))))
    (sRet false (eTup (aCons (eOp kAdd (eOp kMul (eC (.int 2)) (eVar 2)) (eVar 4)) (aCons (eOp kAdd (eOp kMul (eC (.int 2)) (eVar 3)) (eVar 5)) (aNil))))))))))
def f_place_of : List Da → Rs Sl := fDef 8 g_place_of
def g_made : SemS := sSeq (sExpr (eFn f_asked_order (aCons (eVar 0) (aNil))))
    (sSeq (sIf (fB (eOp kGt (eVar 0) (eC (.int 40))))
    (sRaise "TooGreat") (sNil))
    (sRet false (eLc2 (iR1 (aCons (eVar 0) (aNil))) [1] un1 [1] (eLc (iR1 (aCons (eVar 0) (aNil))) [2] un1 [2] (eFn f_number_of (aCons (eVar 0) (aCons (eVar 1) (aCons (eVar 2) (aNil)))))))))
def f_made : List Da → Rs Sl := fDef 3 g_made
def g_total : SemS := sSeq (sExpr (eFn f_asked_order (aCons (eVar 0) (aNil))))
    (sRet false (eOp kDiv (eOp kMul (eVar 0) (eOp kAdd (eOp kMul (eVar 0) (eVar 0)) (eC (.int 1)))) (eC (.int 2))))
def f_total : List Da → Rs Sl := fDef 1 g_total
def g_parts : SemS := sSeq (sExpr (eFn f_asked_square (aCons (eVar 0) (aNil))))
    (sSeq (sIf (fOr (fB (eOp kNe (eCall kLen (aCons (eVar 0) (aNil))) (eC (.int 3)))) (fNot (fB (eUn (kIsC true false) (eFn f_told (aCons (eVar 0) (aNil)))))))
    (sRaise "NotEven") (sNil))
    (sSeq (sSet 1 false (eOp kIx (eOp kIx (eVar 0) (eC (.int 1))) (eC (.int 1))))
    (sRet false (eTup (aCons (eVar 1) (aCons (eOp kSub (eOp kIx (eOp kIx (eVar 0) (eC (.int 0))) (eC (.int 0))) (eVar 1)) (aCons (eOp kSub (eOp kIx (eOp kIx (eVar 0) (eC (.int 0))) (eC (.int 2))) (eVar 1)) (aNil))))))))
def f_parts : List Da → Rs Sl := fDef 2 g_parts
def gMP1 : SemS := sSeq (sSet 0 false (eOp kPow (eC (.int 10)) (eC (.int 30))))
    (sSeq (sIf (fOr (fB (eOp kNe (eFn f_made (aCons (eC (.int 1)) (aNil))) (eLst (aCons (eLst (aCons (eC (.int 1)) (aNil))) (aNil))))) (fB (eOp kNe (eFn f_made (aCons (eC (.int 3)) (aNil))) (eLst (aCons (eLst (aCons (eC (.int 8)) (aCons (eC (.int 1)) (aCons (eC (.int 6)) (aNil))))) (aCons (eLst (aCons (eC (.int 3)) (aCons (eC (.int 5)) (aCons (eC (.int 7)) (aNil))))) (aCons (eLst (aCons (eC (.int 4)) (aCons (eC (.int 9)) (aCons (eC (.int 2)) (aNil))))) (aNil))))))))
    (sRet false (eC (.bl false))) (sNil))
    (sIf (fB (eOp kNe (eFn f_made (aCons (eC (.int 4)) (aNil))) (eLst (aCons (eLst (aCons (eC (.int 16)) (aCons (eC (.int 2)) (aCons (eC (.int 3)) (aCons (eC (.int 13)) (aNil)))))) (aCons (eLst (aCons (eC (.int 5)) (aCons (eC (.int 11)) (aCons (eC (.int 10)) (aCons (eC (.int 8)) (aNil)))))) (aCons (eLst (aCons (eC (.int 9)) (aCons (eC (.int 7)) (aCons (eC (.int 6)) (aCons (eC (.int 12)) (aNil)))))) (aCons (eLst (aCons (eC (.int 4)) (aCons (eC (.int 14)) (aCons (eC (.int 15)) (aCons (eC (.int 1)) (aNil)))))) (aNil))))))))
    (sRet false (eC (.bl false))) (sNil)))
def tMP : Rho → Rs Bool := fB (eOp kNe (eLc (iL unT (eTup (aCons (eC (.int 1)) (aCons (eC (.int 3)) (aCons (eC (.int 4)) (aCons (eC (.int 6)) (aCons (eC (.int 10)) (aNil)))))))) [1] un1 [1] (eFn f_total (aCons (eVar 1) (aNil)))) (eLst (aCons (eC (.int 1)) (aCons (eC (.int 15)) (aCons (eC (.int 34)) (aCons (eC (.int 111)) (aCons (eC (.int 505)) (aNil))))))))
def eMP : Sem1 := eFn f_made (aCons (eC (.int 41)) (aNil))
def gMP2 : SemS := sSeq (sFor (iL asL (eLst (aCons (eC (.int 1)) (aCons (eC (.int 3)) (aCons (eC (.int 4)) (aCons (eC (.int 5)) (aCons (eC (.int 6)) (aCons (eC (.int 8)) (aCons (eC (.int 9)) (aCons (eC (.int 10)) (aCons (eC (.int 14)) (aNil)))))))))))) [1] un1
    (sSeq (sSet 2 false (eFn f_made (aCons (eVar 1) (aNil))))
    (sSeq (sIf (fOr (fNot (fB (eFn f_whole (aCons (eVar 2) (aNil))))) (fOr (fNot (fB (eShows (eEven (aCons (eFn f_total (aCons (eVar 1) (aNil))) (aNil))) (aCons (eVar 2) (aNil)) f_Even_shows f_Unlike_shows))) (fNot (fB (eUn (kIsC true false) (eFn f_told (aCons (eVar 2) (aNil))))))))
    (sRet false (eC (.bl false))) (sNil))
    (sFor (iDict [eC (.int 1), eVar 1, eOp kMul (eVar 1) (eVar 1), eOp kAdd (eOp kDiv (eOp kMul (eVar 1) (eVar 1)) (eC (.int 2))) (eC (.int 1))]) [3] un1
    (sSeq (sTgt [5, 6] unT false (eFn f_place_of (aCons (eVar 1) (aCons (eVar 3) (aNil)))))
    (sIf (fOr (fB (eOp kNe (eOp kIx (eOp kIx (eVar 2) (eVar 5)) (eVar 6)) (eVar 3))) (fB (eOp kNe (eFn f_number_at (aCons (eVar 1) (aCons (eVar 5) (aCons (eVar 6) (aNil))))) (eVar 3))))
    (sRet false (eC (.bl false))) (sNil)))))))
    (sSeq (sIf (fOr (fB (eOp kNe (eFn f_number_at (aCons (eOp kAdd (eVar 0) (eC (.int 1))) (aCons (eC (.int 0)) (aCons (eOp kDiv (eVar 0) (eC (.int 2))) (aNil))))) (eC (.int 1)))) (fB (eOp kNe (eFn f_place_of (aCons (eOp kAdd (eVar 0) (eC (.int 1))) (aCons (eC (.int 1)) (aNil)))) (eTup (aCons (eC (.int 0)) (aCons (eOp kDiv (eVar 0) (eC (.int 2))) (aNil)))))))
    (sRet false (eC (.bl false))) (sNil))
    (sSeq (sIf (fOr (fB (eOp kNe (eFn f_number_at (aCons (eVar 0) (aCons (eC (.int 0)) (aCons (eC (.int 0)) (aNil))))) (eOp kMul (eVar 0) (eVar 0)))) (fB (eOp kNe (eFn f_number_at (aCons (eVar 0) (aCons (eC (.int 0)) (aCons (eC (.int 1)) (aNil))))) (eC (.int 2)))))
    (sRet false (eC (.bl false))) (sNil))
    (sSeq (sFor (iL asL (eLst (aCons (eVar 0) (aCons (eOp kAdd (eVar 0) (eC (.int 1))) (aCons (eOp kAdd (eVar 0) (eC (.int 2))) (aCons (eOp kAdd (eVar 0) (eC (.int 3))) (aCons (eC (.int 41)) (aCons (eC (.int 42)) (aNil))))))))) [1] un1
    (sSeq (sSet 4 false (eLst (aCons (eTup (aCons (eC (.int 0)) (aCons (eC (.int 0)) (aNil)))) (aCons (eTup (aCons (eOp kDiv (eVar 1) (eC (.int 2))) (aCons (eOp kDiv (eVar 1) (eC (.int 2))) (aNil)))) (aCons (eTup (aCons (eOp kSub (eVar 1) (eC (.int 1))) (aCons (eC (.int 0)) (aNil)))) (aCons (eTup (aCons (eOp kDiv (eVar 1) (eC (.int 4))) (aCons (eOp kDiv (eVar 1) (eC (.int 4))) (aNil)))) (aNil)))))))
    (sSeq (sSet 4 false (eOp kAdd (eVar 4) (eLst (aCons (eTup (aCons (eOp kAdd (eOp kDiv (eVar 1) (eC (.int 4))) (eC (.int 1))) (aCons (eOp kDiv (eVar 1) (eC (.int 4))) (aNil)))) (aCons (eTup (aCons (eC (.int 7)) (aCons (eOp kSub (eVar 1) (eC (.int 3))) (aNil)))) (aNil))))))
    (sFor (iL asL (eVar 4)) [5, 6] unT
    (sIf (fB (eOp kNe (eFn f_place_of (aCons (eVar 1) (aCons (eFn f_number_at (aCons (eVar 1) (aCons (eVar 5) (aCons (eVar 6) (aNil))))) (aNil)))) (eTup (aCons (eVar 5) (aCons (eVar 6) (aNil))))))
    (sRet false (eC (.bl false))) (sNil))))))
    (sRet false (eC (.bl true))))))
def g__law_plain (r : List Da → Rs Sl) : SemS := sSeq (sIf (fOr (fB (eUn (kIsi .list) (eVar 0))) (fB (eUn (kIsi .tuple) (eVar 0))))
    (sRet false (eCall kAll (aCons (eLc (iL unLT (eVar 0)) [1] un1 [1] (eFn r (aCons (eVar 1) (aNil)))) (aNil)))) (sNil))
    (sRet false (eOr (eOp kIsN (eVar 0) (eC .non)) (eOr (eUn (kIsi .str) (eVar 0)) (eAnd (eUn (kIsi .int) (eVar 0)) (eNot (eUn (kIsi .bool) (eVar 0)))))))
def f__law_plain : Nat → List Da → Rs Sl
  | 0 => fun _ => .no
  | n + 1 => fDef 2 (g__law_plain (f__law_plain n))
def gOP1 : SemS := sSeq (sIf (fOr (fB (eOp kNe (eFn f_put_together (aCons (eVar 0) (aCons (eVar 0) (aCons (eUn kNeg (eC (.int 2))) (aNil))))) (eLst (aCons (eLst (aCons (eUn kNeg (eC (.int 1))) (aCons (eUn kNeg (eC (.int 2))) (aNil)))) (aCons (eLst (aCons (eUn kNeg (eC (.int 3))) (aCons (eUn kNeg (eC (.int 4))) (aNil)))) (aNil)))))) (fB (eOp kNe (eFn f_put_together (aCons (eVar 0) (aCons (eVar 0) (aCons (eC (.int 0)) (aNil))))) (eVar 0))))
    (sRet false (eC (.bl false))) (sNil))
    (sSeq (sIf (fOr (fB (eOp kNe (eFn f_product (aCons (eLst (aCons (eLst (aCons (eC (.int 1)) (aNil))) (aNil))) (aCons (eLst (aCons (eLst (aCons (eC (.int 5)) (aNil))) (aNil))) (aNil)))) (eLst (aCons (eLst (aCons (eC (.int 5)) (aNil))) (aNil))))) (fB (eOp kNe (eFn f_product (aCons (eLst (aCons (eLst (aCons (eC (.int 2)) (aNil))) (aNil))) (aCons (eVar 0) (aNil)))) (eLst (aCons (eLst (aCons (eC (.int 5)) (aCons (eC (.int 6)) (aNil)))) (aCons (eLst (aCons (eC (.int 7)) (aCons (eC (.int 8)) (aNil)))) (aNil)))))))
    (sRet false (eC (.bl false))) (sNil))
    (sSeq (sIf (fOr (fB (eOp kNe (eFn f_product (aCons (eVar 0) (aCons (eLst (aCons (eLst (aCons (eC (.int 1)) (aNil))) (aNil))) (aNil)))) (eVar 0))) (fB (eOp kNe (eCall kLen (aCons (eFn f_product (aCons (eFn f_made (aCons (eC (.int 3)) (aNil))) (aCons (eFn f_made (aCons (eC (.int 4)) (aNil))) (aNil)))) (aNil))) (eC (.int 12)))))
    (sRet false (eC (.bl false))) (sNil))
    (sSeq (sIf (fNot (fB (eUn (kIsC true false) (eFn f_told (aCons (eFn f_product (aCons (eFn f_made (aCons (eC (.int 3)) (aNil))) (aCons (eFn f_made (aCons (eC (.int 4)) (aNil))) (aNil)))) (aNil))))))
    (sRet false (eC (.bl false))) (sNil))
    (sSeq (sIf (fB (eOp kEq (eFn f_product (aCons (eFn f_made (aCons (eC (.int 3)) (aNil))) (aCons (eFn f_made (aCons (eC (.int 4)) (aNil))) (aNil)))) (eFn f_product (aCons (eFn f_made (aCons (eC (.int 4)) (aNil))) (aCons (eFn f_made (aCons (eC (.int 3)) (aNil))) (aNil))))))
    (sRet false (eC (.bl false))) (sNil))
    (sSeq (sIf (fOr (fB (eOp kNe (eFn f_three (aCons (eC (.int 5)) (aCons (eC (.int 3)) (aCons (eC (.int 1)) (aNil))))) (eFn f_made (aCons (eC (.int 3)) (aNil))))) (fOr (fB (eOp kNe (eFn f_parts (aCons (eFn f_made (aCons (eC (.int 3)) (aNil))) (aNil))) (eTup (aCons (eC (.int 5)) (aCons (eC (.int 3)) (aCons (eC (.int 1)) (aNil))))))) (fB (eOp kNe (eFn f_three (aCons (eC (.int 0)) (aCons (eC (.int 0)) (aCons (eC (.int 0)) (aNil))))) (eOp kRep (eLst (aCons (eOp kRep (eLst (aCons (eC (.int 0)) (aNil))) (eC (.int 3))) (aNil))) (eC (.int 3)))))))
    (sRet false (eC (.bl false))) (sNil))
    (sIf (fB (eOp kNe (eFn f_parts (aCons (eFn f_three (aCons (eUn kNeg (eC (.int 9))) (aCons (eOp kPow (eC (.int 10)) (eC (.int 30))) (aCons (eC (.int 4)) (aNil))))) (aNil))) (eTup (aCons (eUn kNeg (eC (.int 9))) (aCons (eOp kPow (eC (.int 10)) (eC (.int 30))) (aCons (eC (.int 4)) (aNil)))))))
    (sRet false (eC (.bl false))) (sNil)))))))
def lOP : Rho → Rs (List Da) := aCons (eFn f_made (aCons (eC (.int 4)) (aNil))) (aCons (eLst (aCons (eLst (aCons (eC (.int 1)) (aCons (eC (.int 2)) (aCons (eC (.int 0)) (aNil))))) (aCons (eLst (aCons (eC (.int 2)) (aCons (eC (.int 0)) (aCons (eC (.int 1)) (aNil))))) (aCons (eLst (aCons (eC (.int 0)) (aCons (eC (.int 1)) (aCons (eC (.int 2)) (aNil))))) (aNil))))) (aCons (eLst (aCons (eLst (aCons (eC (.int 1)) (aNil))) (aNil))) (aNil)))
def eOP : Sem1 := eFn f_parts (aCons (eVar 1) (aNil))
def g__law_square_right : SemS := sSeq (sSet 1 false (eFn f_told (aCons (eVar 0) (aNil))))
    (sSeq (sSet 2 false (eIf (fB (eUn (kIsC true false) (eVar 1))) (eLst (aCons (eUn kTotal (eVar 1)) (aNil))) (eLst (aCons (eUn kOne (eVar 1)) (aCons (eUn kOther (eVar 1)) (aNil))))))
    (sSeq (sSet 2 false (eOp kAdd (eVar 2) (eLst (aCons (eFn f_turned (aCons (eVar 0) (aCons (eC (.int 3)) (aNil)))) (aCons (eFn f_other_way (aCons (eVar 0) (aNil))) (aNil))))))
    (sSeq (sSet 3 false (eLc (iL asL (eLst (aCons (eVar 1) (aCons (eEven (aCons (eC (.int 15)) (aNil))) (aCons (eUnl (aCons (eTup (aCons (eC (.str "row")) (aCons (eC (.int 0)) (aNil)))) (aCons (eTup (aCons (eC (.str "column")) (aCons (eC (.int 0)) (aNil)))) (aNil)))) (aNil)))))) [4] un1 [4] (eShows (eVar 4) (aCons (eVar 0) (aNil)) f_Even_shows f_Unlike_shows)))
    (sRet false (eAnd (eFn (f__law_plain 6) (aCons (eVar 2) (aNil))) (eFn f__law_truths (aCons (eVar 3) (aNil))))))))
def f__law_square_right : List Da → Rs Sl := fDef 5 g__law_square_right
def gPR1 : SemS := sSeq (sSet 0 false (eLst (aCons (eLst (aCons (eC (.int 1)) (aCons (eC (.int 2)) (aNil)))) (aCons (eLst (aCons (eC (.int 3)) (aCons (eC (.int 4)) (aNil)))) (aNil)))))
    (sSeq (sIf (fOr (fNot (fB (eUn (kIsC true false) (eFn f_told (aCons (eLst (aCons (eLst (aCons (eC (.int 7)) (aNil))) (aNil))) (aNil)))))) (fOr (fB (eOp kNe (eUn kTotal (eFn f_told (aCons (eLst (aCons (eLst (aCons (eC (.int 7)) (aNil))) (aNil))) (aNil)))) (eC (.int 7)))) (fOr (fNot (fB (eFn f_whole (aCons (eLst (aCons (eLst (aCons (eC (.int 1)) (aNil))) (aNil))) (aNil))))) (fB (eFn f_whole (aCons (eLst (aCons (eLst (aCons (eC (.int 2)) (aNil))) (aNil))) (aNil)))))))
    (sRet false (eC (.bl false))) (sNil))
    (sSeq (sIf (fOr (fB (eFn f_whole (aCons (eLst (aCons (eLst (aCons (eC (.int 1)) (aCons (eC (.int 1)) (aNil)))) (aCons (eLst (aCons (eC (.int 2)) (aCons (eC (.int 3)) (aNil)))) (aNil)))) (aNil)))) (fNot (fB (eFn f_whole (aCons (eVar 0) (aNil))))))
    (sRet false (eC (.bl false))) (sNil))
    (sSeq (sSet 1 false (eLst (aCons (eTup (aCons (eTup (aCons (eC (.str "row")) (aCons (eC (.int 0)) (aNil)))) (aCons (eTup (aCons (eC (.str "down")) (aCons (eC (.int 0)) (aNil)))) (aCons (eVar 0) (aCons (eC (.bl true)) (aNil)))))) (aCons (eTup (aCons (eTup (aCons (eC (.str "row")) (aCons (eC (.int 0)) (aNil)))) (aCons (eTup (aCons (eC (.str "row")) (aCons (eC (.int 0)) (aNil)))) (aCons (eVar 0) (aCons (eC (.bl false)) (aNil)))))) (aNil)))))
    (sSeq (sSet 1 false (eOp kAdd (eVar 1) (eLst (aCons (eTup (aCons (eTup (aCons (eC (.str "row")) (aCons (eC (.int 5)) (aNil)))) (aCons (eTup (aCons (eC (.str "row")) (aCons (eC (.int 0)) (aNil)))) (aCons (eVar 0) (aCons (eC (.bl false)) (aNil)))))) (aCons (eTup (aCons (eTup (aCons (eC (.str "far")) (aCons (eC (.int 0)) (aNil)))) (aCons (eTup (aCons (eC (.str "row")) (aCons (eC (.int 0)) (aNil)))) (aCons (eVar 0) (aCons (eC (.bl false)) (aNil)))))) (aNil))))))
    (sSeq (sSet 1 false (eOp kAdd (eVar 1) (eLst (aCons (eTup (aCons (eTup (aCons (eC (.str "row")) (aCons (eC (.int 0)) (aNil)))) (aCons (eTup (aCons (eC (.str "row")) (aCons (eC (.int 1)) (aNil)))) (aCons (eVar 0) (aCons (eC (.bl true)) (aNil)))))) (aCons (eTup (aCons (eTup (aCons (eC (.str "down")) (aCons (eC (.int 0)) (aNil)))) (aCons (eTup (aCons (eC (.str "up")) (aCons (eC (.int 0)) (aNil)))) (aCons (eVar 0) (aCons (eC (.bl false)) (aNil)))))) (aNil))))))
    (sSeq (sSet 1 false (eOp kAdd (eVar 1) (eLst (aCons (eTup (aCons (eTup (aCons (eC (.str "down")) (aCons (eC (.int 1)) (aNil)))) (aCons (eTup (aCons (eC (.str "row")) (aCons (eC (.int 0)) (aNil)))) (aCons (eVar 0) (aCons (eC (.bl false)) (aNil)))))) (aCons (eTup (aCons (eTup (aCons (eC (.str "column")) (aCons (eC (.int 0)) (aNil)))) (aCons (eTup (aCons (eC (.str "up")) (aCons (eC (.int 0)) (aNil)))) (aCons (eVar 0) (aCons (eC (.bl true)) (aNil)))))) (aNil))))))
    (sSeq (sSet 1 false (eOp kAdd (eVar 1) (eLst (aCons (eTup (aCons (eTup (aCons (eC (.str "row")) (aCons (eC (.int 0)) (aNil)))) (aCons (eTup (aCons (eC (.str "column")) (aCons (eUn kNeg (eC (.int 1))) (aNil)))) (aCons (eVar 0) (aCons (eC (.bl false)) (aNil)))))) (aNil)))))
    (sSeq (sSet 1 false (eOp kAdd (eVar 1) (eLst (aCons (eTup (aCons (eTup (aCons (eC (.str "down")) (aCons (eC (.int 0)) (aNil)))) (aCons (eTup (aCons (eC (.str "up")) (aCons (eC (.int 0)) (aNil)))) (aCons (eLst (aCons (eLst (aCons (eC (.int 1)) (aCons (eC (.int 2)) (aCons (eC (.int 0)) (aNil))))) (aCons (eLst (aCons (eC (.int 2)) (aCons (eC (.int 0)) (aCons (eC (.int 1)) (aNil))))) (aCons (eLst (aCons (eC (.int 0)) (aCons (eC (.int 1)) (aCons (eC (.int 2)) (aNil))))) (aNil))))) (aCons (eC (.bl true)) (aNil)))))) (aNil)))))
    (sSeq (sFor (iL asL (eVar 1)) [2, 3, 4, 5] unT
    (sIf (fB (eOp kNe (eShows (eUnl (aCons (eVar 2) (aCons (eVar 3) (aNil)))) (aCons (eVar 4) (aNil)) f_Even_shows f_Unlike_shows) (eVar 5)))
    (sRet false (eC (.bl false))) (sNil)))
    (sSeq (sIf (fNot (fB (eUn (kIsC false true) (eFn f_told (aCons (eLst (aCons (eLst (aCons (eC (.int 1)) (aCons (eC (.int 2)) (aCons (eC (.int 0)) (aNil))))) (aCons (eLst (aCons (eC (.int 2)) (aCons (eC (.int 0)) (aCons (eC (.int 1)) (aNil))))) (aCons (eLst (aCons (eC (.int 0)) (aCons (eC (.int 1)) (aCons (eC (.int 2)) (aNil))))) (aNil))))) (aNil))))))
    (sRet false (eC (.bl false))) (sNil))
    (sSeq (sIf (fOr (fB (eShows (eEven (aCons (eC (.int 15)) (aNil))) (aCons (eLst (aCons (eLst (aCons (eC (.int 8)) (aCons (eC (.int 1)) (aCons (eC (.int 6)) (aNil))))) (aCons (eLst (aCons (eC (.int 3)) (aCons (eC (.int 5)) (aCons (eC (.int 7)) (aNil))))) (aCons (eLst (aCons (eC (.int 4)) (aCons (eC (.int 2)) (aCons (eC (.int 9)) (aNil))))) (aNil))))) (aNil)) f_Even_shows f_Unlike_shows)) (fB (eShows (eEven (aCons (eC (.int 14)) (aNil))) (aCons (eFn f_made (aCons (eC (.int 3)) (aNil))) (aNil)) f_Even_shows f_Unlike_shows)))
    (sRet false (eC (.bl false))) (sNil))
    (sSeq (sSet 6 false (eLst (aCons (eLst (aCons (eLst (aCons (eC (.int 1)) (aCons (eC (.int 2)) (aNil)))) (aCons (eLst (aCons (eC (.int 3)) (aCons (eC (.int 4)) (aNil)))) (aNil)))) (aCons (eLst (aCons (eLst (aCons (eC (.int 3)) (aCons (eC (.int 1)) (aNil)))) (aCons (eLst (aCons (eC (.int 4)) (aCons (eC (.int 2)) (aNil)))) (aNil)))) (aCons (eLst (aCons (eLst (aCons (eC (.int 4)) (aCons (eC (.int 3)) (aNil)))) (aCons (eLst (aCons (eC (.int 2)) (aCons (eC (.int 1)) (aNil)))) (aNil)))) (aCons (eLst (aCons (eLst (aCons (eC (.int 2)) (aCons (eC (.int 4)) (aNil)))) (aCons (eLst (aCons (eC (.int 1)) (aCons (eC (.int 3)) (aNil)))) (aNil)))) (aCons (eLst (aCons (eLst (aCons (eC (.int 1)) (aCons (eC (.int 3)) (aNil)))) (aCons (eLst (aCons (eC (.int 2)) (aCons (eC (.int 4)) (aNil)))) (aNil)))) (aNil))))))))
    (sSeq (sSet 6 false (eOp kAdd (eVar 6) (eLst (aCons (eLst (aCons (eLst (aCons (eC (.int 2)) (aCons (eC (.int 1)) (aNil)))) (aCons (eLst (aCons (eC (.int 4)) (aCons (eC (.int 3)) (aNil)))) (aNil)))) (aCons (eLst (aCons (eLst (aCons (eC (.int 4)) (aCons (eC (.int 2)) (aNil)))) (aCons (eLst (aCons (eC (.int 3)) (aCons (eC (.int 1)) (aNil)))) (aNil)))) (aCons (eLst (aCons (eLst (aCons (eC (.int 3)) (aCons (eC (.int 4)) (aNil)))) (aCons (eLst (aCons (eC (.int 1)) (aCons (eC (.int 2)) (aNil)))) (aNil)))) (aNil)))))))
    (sIf (fOr (fB (eOp kNe (eLc (iR1 (aCons (eC (.int 8)) (aNil))) [7] un1 [7] (eFn f_turned (aCons (eVar 0) (aCons (eVar 7) (aNil))))) (eVar 6))) (fB (eOp kNe (eFn f_other_way (aCons (eVar 0) (aNil))) (eLst (aCons (eLst (aCons (eC (.int 4)) (aCons (eC (.int 3)) (aNil)))) (aCons (eLst (aCons (eC (.int 2)) (aCons (eC (.int 1)) (aNil)))) (aNil)))))))
    (sRet false (eC (.bl false))) (sNil)))))))))))))))
def gLaw2 : SemS := sSeq (sSet 1 false (eCall kAbs (aCons (eCall kSum (aCons (eSl (eVar 0) (oNone) (oSome (eC (.int 63)))) (aNil))) (aNil))))
    (sSeq (sSet 2 false (eIf (fB (eOp kNe (eVar 0) (eLst (aNil)))) (eSl (eVar 0) (oNone) (oSome (eC (.int 9)))) (eLst (aCons (eC (.int 5)) (aNil)))))
    (sSeq (sSet 3 false (eOp kAdd (eC (.int 3)) (eOp kMod (eVar 1) (eC (.int 5)))))
    (sSeq (sSet 4 false (eOp kDiv (eCall kAbs (aCons (eFn f__law_number (aCons (eVar 1) (aCons (eC (.int 3)) (aCons (eC (.int 7)) (aNil))))) (aNil))) (eC (.int 3))))
    (sSeq (sSet 5 false (eLst (aCons (eFn f_total (aCons (eVar 3) (aNil))) (aCons (eFn f_total (aCons (eC (.int 1)) (aNil))) (aCons (eFn f_number_at (aCons (eVar 3) (aCons (eOp kMod (eVar 4) (eVar 3)) (aCons (eC (.int 0)) (aNil))))) (aNil))))))
    (sSeq (sSet 5 false (eOp kAdd (eVar 5) (eLst (aCons (eFn f_place_of (aCons (eVar 3) (aCons (eOp kAdd (eC (.int 1)) (eOp kMod (eVar 4) (eOp kMul (eVar 3) (eVar 3)))) (aNil)))) (aNil)))))
    (sSeq (sSet 5 false (eOp kAdd (eVar 5) (eLst (aCons (eFn f_three (aCons (eVar 1) (aCons (eC (.int 2)) (aCons (eC (.int 5)) (aNil))))) (aCons (eFn f_parts (aCons (eFn f_three (aCons (eVar 1) (aCons (eC (.int 2)) (aCons (eC (.int 5)) (aNil))))) (aNil))) (aCons (eFn f_number_at (aCons (eC (.int 1)) (aCons (eC (.int 0)) (aCons (eC (.int 0)) (aNil))))) (aCons (eFn f_place_of (aCons (eC (.int 1)) (aCons (eC (.int 1)) (aNil)))) (aCons (eFn f_made (aCons (eC (.int 1)) (aNil))) (aNil)))))))))
    (sSeq (sIf (fOr (fNot (fB (eFn (f__law_plain 6) (aCons (eVar 5) (aNil))))) (fNot (fB (eUn (kIsi .tuple) (eFn f_parts (aCons (eFn f_three (aCons (eC (.int 5)) (aCons (eC (.int 1)) (aCons (eC (.int 3)) (aNil))))) (aNil)))))))
    (sRet false (eC (.bl false))) (sNil))
    (sSeq (sIf (fNot (fB (eUn (kIsi .tuple) (eFn f_place_of (aCons (eVar 3) (aCons (eC (.int 1)) (aNil)))))))
    (sRet false (eC (.bl false))) (sNil))
    (sSeq (sParO 6 7 (eLst (aNil)) (eSl (eVar 2) (oNone) (oSome (eC (.int 3)))))
    (sSeq (sFor (iR1 (aCons (eCall kLen (aCons (eVar 7) (aNil))) (aNil))) [8] un1
    (sApp 6 false (eLc (iEnum (aCons (eVar 7) (aNil))) [10, 11] unT [10, 11] (eOp kMod (eOp kDiv (eCall kAbs (aCons (eFn f__law_number (aCons (eVar 11) (aCons (eOp kAdd (eVar 10) (eVar 8)) (aCons (eVar 1) (aNil))))) (aNil))) (eC (.int 3))) (eC (.int 9))))))
    (sFrz 6 (sRet false (eCall kAll (aCons (eLc (iL asL (eLst (aCons (eVar 6) (aCons (eFn f_made (aCons (eVar 3) (aNil))) (aCons (eLst (aCons (eLst (aCons (eC (.int 7)) (aNil))) (aNil))) (aCons (eFn f_three (aCons (eVar 1) (aCons (eC (.int 1)) (aCons (eC (.int 3)) (aNil))))) (aNil))))))) [9] un1 [9] (eFn f__law_square_right (aCons (eVar 9) (aNil)))) (aNil)))))))))))))))
end K08

namespace K08
open PySem PySem.Spec PyProof.Rows L2 G6 EvM
theorem ev_is_number {n : Int} : f_is_number [.int n] = .ok (.sh (.bl true)) := rfl
theorem ev_asked_square {xss : List (List Int)} {n : Nat} (h : Sq xss n) (h0 : 0 < n) (h1 : n ≤ 10000) : f_asked_square [dM xss] = .ok (.sh .non) := by
  have hne : ¬ xss = [] := fun z => by have := h.1; rw [z] at this; simp at this; omega
  have hloop : ∃ ρ', loopF [1] un1 (sIf (fOr (fNot (fB (eUn (kIsi .list) (eVar 1)))) (fOr (fB (eOp kNe (eCall kLen (aCons (eVar 1) (aNil))) (eCall kLen (aCons (eVar 0) (aNil))))) (fNot (fB (eCall kAll (aCons (eLc (iL asL (eVar 1)) [2] un1 [2] (eFn f_is_number (aCons (eVar 2) (aNil)))) (aNil)))))))
    (sRaise "BadSquare") (sNil)) (xss.map fun r => Da.lst (r.map .int)) [.sh (dM xss), .dead, .dead] = .nx ρ' ∧ ∃ x1, ρ' = [.sh (dM xss), x1, .dead] := by
    refine loop_items (fun _ ρ => ∃ x1, ρ = [.sh (dM xss), x1, .dead]) (fun k d ρ hd ⟨x1, hρ⟩ => ?_) ⟨.dead, rfl⟩
    rw [List.getElem?_map] at hd
    cases hr : xss[k]? with
    | none => rw [hr] at hd; cases hd
    | some r =>
      rw [hr] at hd
      cases hd
      have hrl := h.2 r (List.mem_of_getElem? hr)
      subst hρ
      refine ⟨[.sh (dM xss), .sh (.lst (r.map .int)), .dead], ?_, _, rfl⟩
      have hlc : eLc (iL asL (eVar 1)) [2] un1 [2] (eFn f_is_number (aCons (eVar 2) (aNil))) [.sh (dM xss), .sh (.lst (r.map .int)), .dead] = .ok (.ow ((r.map Da.int).map fun _ => .bl true)) := by
        refine eLc_ok _ (by simp only [iL_e, sSeq_e, then_nx, then_rt, then_ex, fin_ok, fin_ex, sSet_e, sOwn_e, sRet_e, sExpr_e, sRetVar_e, retN_sh, retN_ow, retN_ow2, sIf_e, selS_t, selS_f, selE_t, selE_f, stf_f, stf_t, bind_ok, bind_ex, dat_sh, dat_ow, dat_ow2, dat_ex, ofO_some, eVar_e, eOp_e, eUn_e, eIf_e, fB_e, dB_bl, fAnd_e, fOr_e, andT_t, andT_f, andT_x, orT_t, orT_f, orT_x, fNot_e, eAnd_e, eOr_e, andE_t, andE_f, orE_t, orE_f, eNot_e, dN_bl, eCh_e, chN_t, chN_f, eCh3_e, chN2_t, chN2_f, aCons_e, aNil_e, eLst_e, eTup_e, eCall_e, eFn_e, eC_e, sTgt_e, tgtN_some, sPar_e, parN_e, sRaise_e, sNil_e, eTab_e, tabN_e, eIndexT_e, idxN_e, endS_rt, endS_nx, endS_ex, view_sh, view_ow, view_ow2, shs_cons, shs_nil, shO_sh, shO_dead, shO_ow, shO_ow2, setR_c, setR_n, un1_e, unT_e, oNone_e, oSome_e, dI_int, fDef, List.map_cons, List.map_nil, List.append_nil, List.nil_append, List.cons_append, List.replicate_succ, List.replicate_zero, List.length_cons, List.length_nil, List.set_cons_zero, List.set_cons_succ, List.getElem?_cons_zero, List.getElem?_cons_succ, Nat.sub_zero, Nat.reduceSub, Nat.reduceAdd, Nat.reduceLeDiff, if_true, if_false, ite_true, ite_false, Bool.false_eq_true, decide_true, decide_false, Bool.not_true, Bool.not_false, kSub_int, kAdd_int, kLt_int, kLe_int, kGt_int, kGe_int, kEq_int, kNe_int, kMod_int, kEq_pair, kNe_pair, Bool.and_true, Bool.and_false, Bool.true_and, Bool.false_and, asL_lst]) (by rw [List.length_map]; omega) fun d hd => elD_un1 ?_
        obtain ⟨i, _, rfl⟩ := List.mem_map.mp hd
        simp only [wipeR, sSeq_e, then_nx, then_rt, then_ex, fin_ok, fin_ex, sSet_e, sOwn_e, sRet_e, sExpr_e, sRetVar_e, retN_sh, retN_ow, retN_ow2, sIf_e, selS_t, selS_f, selE_t, selE_f, stf_f, stf_t, bind_ok, bind_ex, dat_sh, dat_ow, dat_ow2, dat_ex, ofO_some, eVar_e, eOp_e, eUn_e, eIf_e, fB_e, dB_bl, fAnd_e, fOr_e, andT_t, andT_f, andT_x, orT_t, orT_f, orT_x, fNot_e, eAnd_e, eOr_e, andE_t, andE_f, orE_t, orE_f, eNot_e, dN_bl, eCh_e, chN_t, chN_f, eCh3_e, chN2_t, chN2_f, aCons_e, aNil_e, eLst_e, eTup_e, eCall_e, eFn_e, eC_e, sTgt_e, tgtN_some, sPar_e, parN_e, sRaise_e, sNil_e, eTab_e, tabN_e, eIndexT_e, idxN_e, endS_rt, endS_nx, endS_ex, view_sh, view_ow, view_ow2, shs_cons, shs_nil, shO_sh, shO_dead, shO_ow, shO_ow2, setR_c, setR_n, un1_e, unT_e, oNone_e, oSome_e, dI_int, fDef, List.map_cons, List.map_nil, List.append_nil, List.nil_append, List.cons_append, List.replicate_succ, List.replicate_zero, List.length_cons, List.length_nil, List.set_cons_zero, List.set_cons_succ, List.getElem?_cons_zero, List.getElem?_cons_succ, Nat.sub_zero, Nat.reduceSub, Nat.reduceAdd, Nat.reduceLeDiff, if_true, if_false, ite_true, ite_false, Bool.false_eq_true, decide_true, decide_false, Bool.not_true, Bool.not_false, kSub_int, kAdd_int, kLt_int, kLe_int, kGt_int, kGe_int, kEq_int, kNe_int, kMod_int, kEq_pair, kNe_pair, Bool.and_true, Bool.and_false, Bool.true_and, Bool.false_and, ev_is_number]
      simp only [sSeq_e, then_nx, then_rt, then_ex, fin_ok, fin_ex, sSet_e, sOwn_e, sRet_e, sExpr_e, sRetVar_e, retN_sh, retN_ow, retN_ow2, sIf_e, selS_t, selS_f, selE_t, selE_f, stf_f, stf_t, bind_ok, bind_ex, dat_sh, dat_ow, dat_ow2, dat_ex, ofO_some, eVar_e, eOp_e, eUn_e, eIf_e, fB_e, dB_bl, fAnd_e, fOr_e, andT_t, andT_f, andT_x, orT_t, orT_f, orT_x, fNot_e, eAnd_e, eOr_e, andE_t, andE_f, orE_t, orE_f, eNot_e, dN_bl, eCh_e, chN_t, chN_f, eCh3_e, chN2_t, chN2_f, aCons_e, aNil_e, eLst_e, eTup_e, eCall_e, eFn_e, eC_e, sTgt_e, tgtN_some, sPar_e, parN_e, sRaise_e, sNil_e, eTab_e, tabN_e, eIndexT_e, idxN_e, endS_rt, endS_nx, endS_ex, view_sh, view_ow, view_ow2, shs_cons, shs_nil, shO_sh, shO_dead, shO_ow, shO_ow2, setR_c, setR_n, un1_e, unT_e, oNone_e, oSome_e, dI_int, fDef, List.append_nil, List.nil_append, List.cons_append, List.replicate_succ, List.replicate_zero, List.length_cons, List.length_nil, List.set_cons_zero, List.set_cons_succ, List.getElem?_cons_zero, List.getElem?_cons_succ, Nat.sub_zero, Nat.reduceSub, Nat.reduceAdd, Nat.reduceLeDiff, if_true, if_false, ite_true, ite_false, Bool.false_eq_true, decide_true, decide_false, Bool.not_true, Bool.not_false, kSub_int, kAdd_int, kLt_int, kLe_int, kGt_int, kGe_int, kEq_int, kNe_int, kMod_int, kEq_pair, kNe_pair, Bool.and_true, Bool.and_false, Bool.true_and, Bool.false_and, kIsi_lst, kLen_ints, kLen_dM, hrl, h.1, beq_self_eq_true, hlc, kAll_true]
  obtain ⟨ρ', e1, x1, e2⟩ := hloop
  subst e2
  simp only [f_asked_square, g_asked_square, sSeq_e, then_nx, then_rt, then_ex, fin_ok, fin_ex, sSet_e, sOwn_e, sRet_e, sExpr_e, sRetVar_e, retN_sh, retN_ow, retN_ow2, sIf_e, selS_t, selS_f, selE_t, selE_f, stf_f, stf_t, bind_ok, bind_ex, dat_sh, dat_ow, dat_ow2, dat_ex, ofO_some, eVar_e, eOp_e, eUn_e, eIf_e, fB_e, dB_bl, fAnd_e, fOr_e, andT_t, andT_f, andT_x, orT_t, orT_f, orT_x, fNot_e, eAnd_e, eOr_e, andE_t, andE_f, orE_t, orE_f, eNot_e, dN_bl, eCh_e, chN_t, chN_f, eCh3_e, chN2_t, chN2_f, aCons_e, aNil_e, eLst_e, eTup_e, eCall_e, eFn_e, eC_e, sTgt_e, tgtN_some, sPar_e, parN_e, sRaise_e, sNil_e, eTab_e, tabN_e, eIndexT_e, idxN_e, endS_rt, endS_nx, endS_ex, view_sh, view_ow, view_ow2, shs_cons, shs_nil, shO_sh, shO_dead, shO_ow, shO_ow2, setR_c, setR_n, un1_e, unT_e, oNone_e, oSome_e, dI_int, fDef, List.map_cons, List.map_nil, List.append_nil, List.nil_append, List.cons_append, List.replicate_succ, List.replicate_zero, List.length_cons, List.length_nil, List.set_cons_zero, List.set_cons_succ, List.getElem?_cons_zero, List.getElem?_cons_succ, Nat.sub_zero, Nat.reduceSub, Nat.reduceAdd, Nat.reduceLeDiff, if_true, if_false, ite_true, ite_false, Bool.false_eq_true, decide_true, decide_false, Bool.not_true, Bool.not_false, kSub_int, kAdd_int, kLt_int, kLe_int, kGt_int, kGe_int, kEq_int, kNe_int, kMod_int, kEq_pair, kNe_pair, Bool.and_true, Bool.and_false, Bool.true_and, Bool.false_and, kIsi_dM, kEq_nil, decide_eq_false hne, sFor_e, iL_e, asL_dM, e1]

def Big (n : Int) : Prop := 0 < n ∧ n < 10 ^ 41
theorem ev_odd_number {n r c : Int} (hn : Big n) : f_odd_number [.int n, .int r, .int c] = .ok (.sh (.int (oddN n r c))) := by
  obtain ⟨h0, h9⟩ := hn
  have h1 : divOk n 2 = true := divOk_s (by omega) (by omega)
  have h2 : mulOk 2 c = true := mulOk_l (by omega) (by omega)
  have h3 : mulOk 2 (n / 2) = true := mulOk_l (by omega) (by omega)
  have hm : mulOk ((r + c - n / 2) % n) n = true := by
    obtain ⟨a, b⟩ := mod_r h0 (r + c - n / 2)
    exact mulOk_m (by omega) (by omega) (by omega) (by omega)
  simp (disch := assumption) only [f_odd_number, g_odd_number, sSeq_e, then_nx, then_rt, then_ex, fin_ok, fin_ex, sSet_e, sOwn_e, sRet_e, sExpr_e, sRetVar_e, retN_sh, retN_ow, retN_ow2, sIf_e, selS_t, selS_f, selE_t, selE_f, stf_f, stf_t, bind_ok, bind_ex, dat_sh, dat_ow, dat_ow2, dat_ex, ofO_some, eVar_e, eOp_e, eUn_e, eIf_e, fB_e, dB_bl, fAnd_e, fOr_e, andT_t, andT_f, andT_x, orT_t, orT_f, orT_x, fNot_e, eAnd_e, eOr_e, andE_t, andE_f, orE_t, orE_f, eNot_e, dN_bl, eCh_e, chN_t, chN_f, eCh3_e, chN2_t, chN2_f, aCons_e, aNil_e, eLst_e, eTup_e, eCall_e, eFn_e, eC_e, sTgt_e, tgtN_some, sPar_e, parN_e, sRaise_e, sNil_e, eTab_e, tabN_e, eIndexT_e, idxN_e, endS_rt, endS_nx, endS_ex, view_sh, view_ow, view_ow2, shs_cons, shs_nil, shO_sh, shO_dead, shO_ow, shO_ow2, setR_c, setR_n, un1_e, unT_e, oNone_e, oSome_e, dI_int, fDef, List.map_cons, List.map_nil, List.append_nil, List.nil_append, List.cons_append, List.replicate_succ, List.replicate_zero, List.length_cons, List.length_nil, List.set_cons_zero, List.set_cons_succ, List.getElem?_cons_zero, List.getElem?_cons_succ, Nat.sub_zero, Nat.reduceSub, Nat.reduceAdd, Nat.reduceLeDiff, if_true, if_false, ite_true, ite_false, Bool.false_eq_true, decide_true, decide_false, Bool.not_true, Bool.not_false, kSub_int, kAdd_int, kLt_int, kLe_int, kGt_int, kGe_int, kEq_int, kNe_int, kMod_int, kEq_pair, kNe_pair, Bool.and_true, Bool.and_false, Bool.true_and, Bool.false_and, kDiv_int, kMul_int, oddN]
theorem ev_odd_place {n k : Int} (hn : Big n) : f_odd_place [.int n, .int k] = .ok (.sh (.tup [.int (oddR n k), .int (oddC n k)])) := by
  obtain ⟨h0, h9⟩ := hn
  have h1 : divOk n 2 = true := divOk_s (by omega) (by omega)
  have h2 : divOk (k - 1) n = true := divOk_m h0 (by omega)
  have h3 : mulOk 2 ((k - 1) / n) = true := mulOk_l (by omega) (by omega)
  simp (disch := assumption) only [f_odd_place, g_odd_place, sSeq_e, then_nx, then_rt, then_ex, fin_ok, fin_ex, sSet_e, sOwn_e, sRet_e, sExpr_e, sRetVar_e, retN_sh, retN_ow, retN_ow2, sIf_e, selS_t, selS_f, selE_t, selE_f, stf_f, stf_t, bind_ok, bind_ex, dat_sh, dat_ow, dat_ow2, dat_ex, ofO_some, eVar_e, eOp_e, eUn_e, eIf_e, fB_e, dB_bl, fAnd_e, fOr_e, andT_t, andT_f, andT_x, orT_t, orT_f, orT_x, fNot_e, eAnd_e, eOr_e, andE_t, andE_f, orE_t, orE_f, eNot_e, dN_bl, eCh_e, chN_t, chN_f, eCh3_e, chN2_t, chN2_f, aCons_e, aNil_e, eLst_e, eTup_e, eCall_e, eFn_e, eC_e, sTgt_e, tgtN_some, sPar_e, parN_e, sRaise_e, sNil_e, eTab_e, tabN_e, eIndexT_e, idxN_e, endS_rt, endS_nx, endS_ex, view_sh, view_ow, view_ow2, shs_cons, shs_nil, shO_sh, shO_dead, shO_ow, shO_ow2, setR_c, setR_n, un1_e, unT_e, oNone_e, oSome_e, dI_int, fDef, List.map_cons, List.map_nil, List.append_nil, List.nil_append, List.cons_append, List.replicate_succ, List.replicate_zero, List.length_cons, List.length_nil, List.set_cons_zero, List.set_cons_succ, List.getElem?_cons_zero, List.getElem?_cons_succ, Nat.sub_zero, Nat.reduceSub, Nat.reduceAdd, Nat.reduceLeDiff, if_true, if_false, ite_true, ite_false, Bool.false_eq_true, decide_true, decide_false, Bool.not_true, Bool.not_false, kSub_int, kAdd_int, kLt_int, kLe_int, kGt_int, kGe_int, kEq_int, kNe_int, kMod_int, kEq_pair, kNe_pair, Bool.and_true, Bool.and_false, Bool.true_and, Bool.false_and, kDiv_int, kMul_int, kDivmod_int, oddR, oddC]
def lxS : Lx → Str
  | .L => "L"
  | .U => "U"
  | .X => "X"
theorem ev_letter {n r c : Int} (hn : Big n) : f_letter [.int n, .int r, .int c] = .ok (.sh (.str (lxS (letX n r c)))) := by
  obtain ⟨h0, h9⟩ := hn
  have h1 : divOk n 2 = true := divOk_s (by omega) (by omega)
  have h3 : mulOk 2 (n / 2) = true := mulOk_l (by omega) (by omega)
  by_cases e1 : c = n / 2
  · by_cases e2 : n / 2 = r ∨ n / 2 + 1 = r
    · have e3 : ((n / 2 == r) || ((n / 2 + 1 == r) || false)) = true := by
        rcases e2 with e | e <;> simp [e]
      have e5 : (if c = n / 2 ∧ (n / 2 = r ∨ n / 2 + 1 = r) then 2 * (n / 2) + 1 - r else r) = 2 * (n / 2) + 1 - r := if_pos ⟨e1, e2⟩
      by_cases a : 2 * (n / 2) + 1 - r ≤ n / 2
      · simp (disch := assumption) only [f_letter, g_letter, sSeq_e, then_nx, then_rt, then_ex, fin_ok, fin_ex, sSet_e, sOwn_e, sRet_e, sExpr_e, sRetVar_e, retN_sh, retN_ow, retN_ow2, sIf_e, selS_t, selS_f, selE_t, selE_f, stf_f, stf_t, bind_ok, bind_ex, dat_sh, dat_ow, dat_ow2, dat_ex, ofO_some, eVar_e, eOp_e, eUn_e, eIf_e, fB_e, dB_bl, fAnd_e, fOr_e, andT_t, andT_f, andT_x, orT_t, orT_f, orT_x, fNot_e, eAnd_e, eOr_e, andE_t, andE_f, orE_t, orE_f, eNot_e, dN_bl, eCh_e, chN_t, chN_f, eCh3_e, chN2_t, chN2_f, aCons_e, aNil_e, eLst_e, eTup_e, eCall_e, eFn_e, eC_e, sTgt_e, tgtN_some, sPar_e, parN_e, sRaise_e, sNil_e, eTab_e, tabN_e, eIndexT_e, idxN_e, endS_rt, endS_nx, endS_ex, view_sh, view_ow, view_ow2, shs_cons, shs_nil, shO_sh, shO_dead, shO_ow, shO_ow2, setR_c, setR_n, un1_e, unT_e, oNone_e, oSome_e, dI_int, fDef, List.map_cons, List.map_nil, List.append_nil, List.nil_append, List.cons_append, List.replicate_succ, List.replicate_zero, List.length_cons, List.length_nil, List.set_cons_zero, List.set_cons_succ, List.getElem?_cons_zero, List.getElem?_cons_succ, Nat.sub_zero, Nat.reduceSub, Nat.reduceAdd, Nat.reduceLeDiff, if_true, if_false, ite_true, ite_false, Bool.false_eq_true, decide_true, decide_false, Bool.not_true, Bool.not_false, kSub_int, kAdd_int, kLt_int, kLe_int, kGt_int, kGe_int, kEq_int, kNe_int, kMod_int, kEq_pair, kNe_pair, Bool.and_true, Bool.and_false, Bool.true_and, Bool.false_and, kDiv_int, kMul_int, kIn_pair, beq_i e1, e3, letX, e5, a, lxS]
      · by_cases b : 2 * (n / 2) + 1 - r = n / 2 + 1
        · simp (disch := assumption) only [f_letter, g_letter, sSeq_e, then_nx, then_rt, then_ex, fin_ok, fin_ex, sSet_e, sOwn_e, sRet_e, sExpr_e, sRetVar_e, retN_sh, retN_ow, retN_ow2, sIf_e, selS_t, selS_f, selE_t, selE_f, stf_f, stf_t, bind_ok, bind_ex, dat_sh, dat_ow, dat_ow2, dat_ex, ofO_some, eVar_e, eOp_e, eUn_e, eIf_e, fB_e, dB_bl, fAnd_e, fOr_e, andT_t, andT_f, andT_x, orT_t, orT_f, orT_x, fNot_e, eAnd_e, eOr_e, andE_t, andE_f, orE_t, orE_f, eNot_e, dN_bl, eCh_e, chN_t, chN_f, eCh3_e, chN2_t, chN2_f, aCons_e, aNil_e, eLst_e, eTup_e, eCall_e, eFn_e, eC_e, sTgt_e, tgtN_some, sPar_e, parN_e, sRaise_e, sNil_e, eTab_e, tabN_e, eIndexT_e, idxN_e, endS_rt, endS_nx, endS_ex, view_sh, view_ow, view_ow2, shs_cons, shs_nil, shO_sh, shO_dead, shO_ow, shO_ow2, setR_c, setR_n, un1_e, unT_e, oNone_e, oSome_e, dI_int, fDef, List.map_cons, List.map_nil, List.append_nil, List.nil_append, List.cons_append, List.replicate_succ, List.replicate_zero, List.length_cons, List.length_nil, List.set_cons_zero, List.set_cons_succ, List.getElem?_cons_zero, List.getElem?_cons_succ, Nat.sub_zero, Nat.reduceSub, Nat.reduceAdd, Nat.reduceLeDiff, if_true, if_false, ite_true, ite_false, Bool.false_eq_true, decide_true, decide_false, Bool.not_true, Bool.not_false, kSub_int, kAdd_int, kLt_int, kLe_int, kGt_int, kGe_int, kEq_int, kNe_int, kMod_int, kEq_pair, kNe_pair, Bool.and_true, Bool.and_false, Bool.true_and, Bool.false_and, kDiv_int, kMul_int, kIn_pair, beq_i e1, e3, letX, e5, if_neg a, decide_eq_false a, beq_i b, if_pos b, lxS]
        · simp (disch := assumption) only [f_letter, g_letter, sSeq_e, then_nx, then_rt, then_ex, fin_ok, fin_ex, sSet_e, sOwn_e, sRet_e, sExpr_e, sRetVar_e, retN_sh, retN_ow, retN_ow2, sIf_e, selS_t, selS_f, selE_t, selE_f, stf_f, stf_t, bind_ok, bind_ex, dat_sh, dat_ow, dat_ow2, dat_ex, ofO_some, eVar_e, eOp_e, eUn_e, eIf_e, fB_e, dB_bl, fAnd_e, fOr_e, andT_t, andT_f, andT_x, orT_t, orT_f, orT_x, fNot_e, eAnd_e, eOr_e, andE_t, andE_f, orE_t, orE_f, eNot_e, dN_bl, eCh_e, chN_t, chN_f, eCh3_e, chN2_t, chN2_f, aCons_e, aNil_e, eLst_e, eTup_e, eCall_e, eFn_e, eC_e, sTgt_e, tgtN_some, sPar_e, parN_e, sRaise_e, sNil_e, eTab_e, tabN_e, eIndexT_e, idxN_e, endS_rt, endS_nx, endS_ex, view_sh, view_ow, view_ow2, shs_cons, shs_nil, shO_sh, shO_dead, shO_ow, shO_ow2, setR_c, setR_n, un1_e, unT_e, oNone_e, oSome_e, dI_int, fDef, List.map_cons, List.map_nil, List.append_nil, List.nil_append, List.cons_append, List.replicate_succ, List.replicate_zero, List.length_cons, List.length_nil, List.set_cons_zero, List.set_cons_succ, List.getElem?_cons_zero, List.getElem?_cons_succ, Nat.sub_zero, Nat.reduceSub, Nat.reduceAdd, Nat.reduceLeDiff, if_true, if_false, ite_true, ite_false, Bool.false_eq_true, decide_true, decide_false, Bool.not_true, Bool.not_false, kSub_int, kAdd_int, kLt_int, kLe_int, kGt_int, kGe_int, kEq_int, kNe_int, kMod_int, kEq_pair, kNe_pair, Bool.and_true, Bool.and_false, Bool.true_and, Bool.false_and, kDiv_int, kMul_int, kIn_pair, beq_i e1, e3, letX, e5, if_neg a, decide_eq_false a, bne_i b, if_neg b, lxS]
    · have e3 : ((n / 2 == r) || ((n / 2 + 1 == r) || false)) = false := by
        simp only [Bool.or_false, Bool.or_eq_false_iff, beq_eq_false_iff_ne]
        omega
      have e5 : (if c = n / 2 ∧ (n / 2 = r ∨ n / 2 + 1 = r) then 2 * (n / 2) + 1 - r else r) = r := if_neg (fun z => e2 z.2)
      by_cases a : r ≤ n / 2
      · simp (disch := assumption) only [f_letter, g_letter, sSeq_e, then_nx, then_rt, then_ex, fin_ok, fin_ex, sSet_e, sOwn_e, sRet_e, sExpr_e, sRetVar_e, retN_sh, retN_ow, retN_ow2, sIf_e, selS_t, selS_f, selE_t, selE_f, stf_f, stf_t, bind_ok, bind_ex, dat_sh, dat_ow, dat_ow2, dat_ex, ofO_some, eVar_e, eOp_e, eUn_e, eIf_e, fB_e, dB_bl, fAnd_e, fOr_e, andT_t, andT_f, andT_x, orT_t, orT_f, orT_x, fNot_e, eAnd_e, eOr_e, andE_t, andE_f, orE_t, orE_f, eNot_e, dN_bl, eCh_e, chN_t, chN_f, eCh3_e, chN2_t, chN2_f, aCons_e, aNil_e, eLst_e, eTup_e, eCall_e, eFn_e, eC_e, sTgt_e, tgtN_some, sPar_e, parN_e, sRaise_e, sNil_e, eTab_e, tabN_e, eIndexT_e, idxN_e, endS_rt, endS_nx, endS_ex, view_sh, view_ow, view_ow2, shs_cons, shs_nil, shO_sh, shO_dead, shO_ow, shO_ow2, setR_c, setR_n, un1_e, unT_e, oNone_e, oSome_e, dI_int, fDef, List.map_cons, List.map_nil, List.append_nil, List.nil_append, List.cons_append, List.replicate_succ, List.replicate_zero, List.length_cons, List.length_nil, List.set_cons_zero, List.set_cons_succ, List.getElem?_cons_zero, List.getElem?_cons_succ, Nat.sub_zero, Nat.reduceSub, Nat.reduceAdd, Nat.reduceLeDiff, if_true, if_false, ite_true, ite_false, Bool.false_eq_true, decide_true, decide_false, Bool.not_true, Bool.not_false, kSub_int, kAdd_int, kLt_int, kLe_int, kGt_int, kGe_int, kEq_int, kNe_int, kMod_int, kEq_pair, kNe_pair, Bool.and_true, Bool.and_false, Bool.true_and, Bool.false_and, kDiv_int, kMul_int, kIn_pair, beq_i e1, e3, letX, e5, a, lxS]
      · by_cases b : r = n / 2 + 1
        · simp (disch := assumption) only [f_letter, g_letter, sSeq_e, then_nx, then_rt, then_ex, fin_ok, fin_ex, sSet_e, sOwn_e, sRet_e, sExpr_e, sRetVar_e, retN_sh, retN_ow, retN_ow2, sIf_e, selS_t, selS_f, selE_t, selE_f, stf_f, stf_t, bind_ok, bind_ex, dat_sh, dat_ow, dat_ow2, dat_ex, ofO_some, eVar_e, eOp_e, eUn_e, eIf_e, fB_e, dB_bl, fAnd_e, fOr_e, andT_t, andT_f, andT_x, orT_t, orT_f, orT_x, fNot_e, eAnd_e, eOr_e, andE_t, andE_f, orE_t, orE_f, eNot_e, dN_bl, eCh_e, chN_t, chN_f, eCh3_e, chN2_t, chN2_f, aCons_e, aNil_e, eLst_e, eTup_e, eCall_e, eFn_e, eC_e, sTgt_e, tgtN_some, sPar_e, parN_e, sRaise_e, sNil_e, eTab_e, tabN_e, eIndexT_e, idxN_e, endS_rt, endS_nx, endS_ex, view_sh, view_ow, view_ow2, shs_cons, shs_nil, shO_sh, shO_dead, shO_ow, shO_ow2, setR_c, setR_n, un1_e, unT_e, oNone_e, oSome_e, dI_int, fDef, List.map_cons, List.map_nil, List.append_nil, List.nil_append, List.cons_append, List.replicate_succ, List.replicate_zero, List.length_cons, List.length_nil, List.set_cons_zero, List.set_cons_succ, List.getElem?_cons_zero, List.getElem?_cons_succ, Nat.sub_zero, Nat.reduceSub, Nat.reduceAdd, Nat.reduceLeDiff, if_true, if_false, ite_true, ite_false, Bool.false_eq_true, decide_true, decide_false, Bool.not_true, Bool.not_false, kSub_int, kAdd_int, kLt_int, kLe_int, kGt_int, kGe_int, kEq_int, kNe_int, kMod_int, kEq_pair, kNe_pair, Bool.and_true, Bool.and_false, Bool.true_and, Bool.false_and, kDiv_int, kMul_int, kIn_pair, beq_i e1, e3, letX, e5, if_neg a, decide_eq_false a, beq_i b, if_pos b, lxS]
        · simp (disch := assumption) only [f_letter, g_letter, sSeq_e, then_nx, then_rt, then_ex, fin_ok, fin_ex, sSet_e, sOwn_e, sRet_e, sExpr_e, sRetVar_e, retN_sh, retN_ow, retN_ow2, sIf_e, selS_t, selS_f, selE_t, selE_f, stf_f, stf_t, bind_ok, bind_ex, dat_sh, dat_ow, dat_ow2, dat_ex, ofO_some, eVar_e, eOp_e, eUn_e, eIf_e, fB_e, dB_bl, fAnd_e, fOr_e, andT_t, andT_f, andT_x, orT_t, orT_f, orT_x, fNot_e, eAnd_e, eOr_e, andE_t, andE_f, orE_t, orE_f, eNot_e, dN_bl, eCh_e, chN_t, chN_f, eCh3_e, chN2_t, chN2_f, aCons_e, aNil_e, eLst_e, eTup_e, eCall_e, eFn_e, eC_e, sTgt_e, tgtN_some, sPar_e, parN_e, sRaise_e, sNil_e, eTab_e, tabN_e, eIndexT_e, idxN_e, endS_rt, endS_nx, endS_ex, view_sh, view_ow, view_ow2, shs_cons, shs_nil, shO_sh, shO_dead, shO_ow, shO_ow2, setR_c, setR_n, un1_e, unT_e, oNone_e, oSome_e, dI_int, fDef, List.map_cons, List.map_nil, List.append_nil, List.nil_append, List.cons_append, List.replicate_succ, List.replicate_zero, List.length_cons, List.length_nil, List.set_cons_zero, List.set_cons_succ, List.getElem?_cons_zero, List.getElem?_cons_succ, Nat.sub_zero, Nat.reduceSub, Nat.reduceAdd, Nat.reduceLeDiff, if_true, if_false, ite_true, ite_false, Bool.false_eq_true, decide_true, decide_false, Bool.not_true, Bool.not_false, kSub_int, kAdd_int, kLt_int, kLe_int, kGt_int, kGe_int, kEq_int, kNe_int, kMod_int, kEq_pair, kNe_pair, Bool.and_true, Bool.and_false, Bool.true_and, Bool.false_and, kDiv_int, kMul_int, kIn_pair, beq_i e1, e3, letX, e5, if_neg a, decide_eq_false a, bne_i b, if_neg b, lxS]
  · have e5 : (if c = n / 2 ∧ (n / 2 = r ∨ n / 2 + 1 = r) then 2 * (n / 2) + 1 - r else r) = r := if_neg (fun z => e1 z.1)
    by_cases a : r ≤ n / 2
    · simp (disch := assumption) only [f_letter, g_letter, sSeq_e, then_nx, then_rt, then_ex, fin_ok, fin_ex, sSet_e, sOwn_e, sRet_e, sExpr_e, sRetVar_e, retN_sh, retN_ow, retN_ow2, sIf_e, selS_t, selS_f, selE_t, selE_f, stf_f, stf_t, bind_ok, bind_ex, dat_sh, dat_ow, dat_ow2, dat_ex, ofO_some, eVar_e, eOp_e, eUn_e, eIf_e, fB_e, dB_bl, fAnd_e, fOr_e, andT_t, andT_f, andT_x, orT_t, orT_f, orT_x, fNot_e, eAnd_e, eOr_e, andE_t, andE_f, orE_t, orE_f, eNot_e, dN_bl, eCh_e, chN_t, chN_f, eCh3_e, chN2_t, chN2_f, aCons_e, aNil_e, eLst_e, eTup_e, eCall_e, eFn_e, eC_e, sTgt_e, tgtN_some, sPar_e, parN_e, sRaise_e, sNil_e, eTab_e, tabN_e, eIndexT_e, idxN_e, endS_rt, endS_nx, endS_ex, view_sh, view_ow, view_ow2, shs_cons, shs_nil, shO_sh, shO_dead, shO_ow, shO_ow2, setR_c, setR_n, un1_e, unT_e, oNone_e, oSome_e, dI_int, fDef, List.map_cons, List.map_nil, List.append_nil, List.nil_append, List.cons_append, List.replicate_succ, List.replicate_zero, List.length_cons, List.length_nil, List.set_cons_zero, List.set_cons_succ, List.getElem?_cons_zero, List.getElem?_cons_succ, Nat.sub_zero, Nat.reduceSub, Nat.reduceAdd, Nat.reduceLeDiff, if_true, if_false, ite_true, ite_false, Bool.false_eq_true, decide_true, decide_false, Bool.not_true, Bool.not_false, kSub_int, kAdd_int, kLt_int, kLe_int, kGt_int, kGe_int, kEq_int, kNe_int, kMod_int, kEq_pair, kNe_pair, Bool.and_true, Bool.and_false, Bool.true_and, Bool.false_and, kDiv_int, kMul_int, kIn_pair, bne_i e1, letX, e5, a, lxS]
    · by_cases b : r = n / 2 + 1
      · simp (disch := assumption) only [f_letter, g_letter, sSeq_e, then_nx, then_rt, then_ex, fin_ok, fin_ex, sSet_e, sOwn_e, sRet_e, sExpr_e, sRetVar_e, retN_sh, retN_ow, retN_ow2, sIf_e, selS_t, selS_f, selE_t, selE_f, stf_f, stf_t, bind_ok, bind_ex, dat_sh, dat_ow, dat_ow2, dat_ex, ofO_some, eVar_e, eOp_e, eUn_e, eIf_e, fB_e, dB_bl, fAnd_e, fOr_e, andT_t, andT_f, andT_x, orT_t, orT_f, orT_x, fNot_e, eAnd_e, eOr_e, andE_t, andE_f, orE_t, orE_f, eNot_e, dN_bl, eCh_e, chN_t, chN_f, eCh3_e, chN2_t, chN2_f, aCons_e, aNil_e, eLst_e, eTup_e, eCall_e, eFn_e, eC_e, sTgt_e, tgtN_some, sPar_e, parN_e, sRaise_e, sNil_e, eTab_e, tabN_e, eIndexT_e, idxN_e, endS_rt, endS_nx, endS_ex, view_sh, view_ow, view_ow2, shs_cons, shs_nil, shO_sh, shO_dead, shO_ow, shO_ow2, setR_c, setR_n, un1_e, unT_e, oNone_e, oSome_e, dI_int, fDef, List.map_cons, List.map_nil, List.append_nil, List.nil_append, List.cons_append, List.replicate_succ, List.replicate_zero, List.length_cons, List.length_nil, List.set_cons_zero, List.set_cons_succ, List.getElem?_cons_zero, List.getElem?_cons_succ, Nat.sub_zero, Nat.reduceSub, Nat.reduceAdd, Nat.reduceLeDiff, if_true, if_false, ite_true, ite_false, Bool.false_eq_true, decide_true, decide_false, Bool.not_true, Bool.not_false, kSub_int, kAdd_int, kLt_int, kLe_int, kGt_int, kGe_int, kEq_int, kNe_int, kMod_int, kEq_pair, kNe_pair, Bool.and_true, Bool.and_false, Bool.true_and, Bool.false_and, kDiv_int, kMul_int, kIn_pair, bne_i e1, letX, e5, if_neg a, decide_eq_false a, beq_i b, if_pos b, lxS]
      · simp (disch := assumption) only [f_letter, g_letter, sSeq_e, then_nx, then_rt, then_ex, fin_ok, fin_ex, sSet_e, sOwn_e, sRet_e, sExpr_e, sRetVar_e, retN_sh, retN_ow, retN_ow2, sIf_e, selS_t, selS_f, selE_t, selE_f, stf_f, stf_t, bind_ok, bind_ex, dat_sh, dat_ow, dat_ow2, dat_ex, ofO_some, eVar_e, eOp_e, eUn_e, eIf_e, fB_e, dB_bl, fAnd_e, fOr_e, andT_t, andT_f, andT_x, orT_t, orT_f, orT_x, fNot_e, eAnd_e, eOr_e, andE_t, andE_f, orE_t, orE_f, eNot_e, dN_bl, eCh_e, chN_t, chN_f, eCh3_e, chN2_t, chN2_f, aCons_e, aNil_e, eLst_e, eTup_e, eCall_e, eFn_e, eC_e, sTgt_e, tgtN_some, sPar_e, parN_e, sRaise_e, sNil_e, eTab_e, tabN_e, eIndexT_e, idxN_e, endS_rt, endS_nx, endS_ex, view_sh, view_ow, view_ow2, shs_cons, shs_nil, shO_sh, shO_dead, shO_ow, shO_ow2, setR_c, setR_n, un1_e, unT_e, oNone_e, oSome_e, dI_int, fDef, List.map_cons, List.map_nil, List.append_nil, List.nil_append, List.cons_append, List.replicate_succ, List.replicate_zero, List.length_cons, List.length_nil, List.set_cons_zero, List.set_cons_succ, List.getElem?_cons_zero, List.getElem?_cons_succ, Nat.sub_zero, Nat.reduceSub, Nat.reduceAdd, Nat.reduceLeDiff, if_true, if_false, ite_true, ite_false, Bool.false_eq_true, decide_true, decide_false, Bool.not_true, Bool.not_false, kSub_int, kAdd_int, kLt_int, kLe_int, kGt_int, kGe_int, kEq_int, kNe_int, kMod_int, kEq_pair, kNe_pair, Bool.and_true, Bool.and_false, Bool.true_and, Bool.false_and, kDiv_int, kMul_int, kIn_pair, bne_i e1, letX, e5, if_neg a, decide_eq_false a, bne_i b, if_neg b, lxS]
def pairD (p : Int × Int) : Da := .tup [.int p.1, .int p.2]
theorem tab_lx (z : Lx) : tab_FOUR (lxS z) = some (.kt ((four z).map pairD)) := by
  cases z <;> rfl
theorem lx_index (z : Lx) {i j : Int} (hi : i = 0 ∨ i = 1) (hj : j = 0 ∨ j = 1) : kIndexT ((four z).map pairD) (.tup [.int i, .int j]) = some (.sh (.int (idx z i j))) := by
  rcases hi with rfl | rfl <;> rcases hj with rfl | rfl <;> cases z <;> rfl
theorem lx_ix (z : Lx) {m : Int} (h0 : 0 ≤ m) (h1 : m < 4) : kIx (.kt ((four z).map pairD)) (.int m) = some (.sh (.tup [.int (spot z m).1, .int (spot z m).2])) := by
  have : m = 0 ∨ m = 1 ∨ m = 2 ∨ m = 3 := by omega
  rcases this with rfl | rfl | rfl | rfl <;> cases z <;> rfl
theorem ev_is_back {r c : Int} : f_is_back [.int r, .int c] = .ok (.sh (.bl (back r c))) := by
  unfold back
  by_cases e1 : r % 4 = c % 4
  · simp (disch := omega) only [f_is_back, g_is_back, sSeq_e, then_nx, then_rt, then_ex, fin_ok, fin_ex, sSet_e, sOwn_e, sRet_e, sExpr_e, sRetVar_e, retN_sh, retN_ow, retN_ow2, sIf_e, selS_t, selS_f, selE_t, selE_f, stf_f, stf_t, bind_ok, bind_ex, dat_sh, dat_ow, dat_ow2, dat_ex, ofO_some, eVar_e, eOp_e, eUn_e, eIf_e, fB_e, dB_bl, fAnd_e, fOr_e, andT_t, andT_f, andT_x, orT_t, orT_f, orT_x, fNot_e, eAnd_e, eOr_e, andE_t, andE_f, orE_t, orE_f, eNot_e, dN_bl, eCh_e, chN_t, chN_f, eCh3_e, chN2_t, chN2_f, aCons_e, aNil_e, eLst_e, eTup_e, eCall_e, eFn_e, eC_e, sTgt_e, tgtN_some, sPar_e, parN_e, sRaise_e, sNil_e, eTab_e, tabN_e, eIndexT_e, idxN_e, endS_rt, endS_nx, endS_ex, view_sh, view_ow, view_ow2, shs_cons, shs_nil, shO_sh, shO_dead, shO_ow, shO_ow2, setR_c, setR_n, un1_e, unT_e, oNone_e, oSome_e, dI_int, fDef, List.map_cons, List.map_nil, List.append_nil, List.nil_append, List.cons_append, List.replicate_succ, List.replicate_zero, List.length_cons, List.length_nil, List.set_cons_zero, List.set_cons_succ, List.getElem?_cons_zero, List.getElem?_cons_succ, Nat.sub_zero, Nat.reduceSub, Nat.reduceAdd, Nat.reduceLeDiff, if_true, if_false, ite_true, ite_false, Bool.false_eq_true, decide_true, decide_false, Bool.not_true, Bool.not_false, kSub_int, kAdd_int, kLt_int, kLe_int, kGt_int, kGe_int, kEq_int, kNe_int, kMod_int, kEq_pair, kNe_pair, Bool.and_true, Bool.and_false, Bool.true_and, Bool.false_and, beq_i e1, Bool.true_or]
  · simp (disch := omega) only [f_is_back, g_is_back, sSeq_e, then_nx, then_rt, then_ex, fin_ok, fin_ex, sSet_e, sOwn_e, sRet_e, sExpr_e, sRetVar_e, retN_sh, retN_ow, retN_ow2, sIf_e, selS_t, selS_f, selE_t, selE_f, stf_f, stf_t, bind_ok, bind_ex, dat_sh, dat_ow, dat_ow2, dat_ex, ofO_some, eVar_e, eOp_e, eUn_e, eIf_e, fB_e, dB_bl, fAnd_e, fOr_e, andT_t, andT_f, andT_x, orT_t, orT_f, orT_x, fNot_e, eAnd_e, eOr_e, andE_t, andE_f, orE_t, orE_f, eNot_e, dN_bl, eCh_e, chN_t, chN_f, eCh3_e, chN2_t, chN2_f, aCons_e, aNil_e, eLst_e, eTup_e, eCall_e, eFn_e, eC_e, sTgt_e, tgtN_some, sPar_e, parN_e, sRaise_e, sNil_e, eTab_e, tabN_e, eIndexT_e, idxN_e, endS_rt, endS_nx, endS_ex, view_sh, view_ow, view_ow2, shs_cons, shs_nil, shO_sh, shO_dead, shO_ow, shO_ow2, setR_c, setR_n, un1_e, unT_e, oNone_e, oSome_e, dI_int, fDef, List.map_cons, List.map_nil, List.append_nil, List.nil_append, List.cons_append, List.replicate_succ, List.replicate_zero, List.length_cons, List.length_nil, List.set_cons_zero, List.set_cons_succ, List.getElem?_cons_zero, List.getElem?_cons_succ, Nat.sub_zero, Nat.reduceSub, Nat.reduceAdd, Nat.reduceLeDiff, if_true, if_false, ite_true, ite_false, Bool.false_eq_true, decide_true, decide_false, Bool.not_true, Bool.not_false, kSub_int, kAdd_int, kLt_int, kLe_int, kGt_int, kGe_int, kEq_int, kNe_int, kMod_int, kEq_pair, kNe_pair, Bool.and_true, Bool.and_false, Bool.true_and, Bool.false_and, bne_i e1, Bool.false_or]
theorem ev_number_of {n r c : Int} (hn : Big n) (hr : 0 ≤ r ∧ r < n) (hc : 0 ≤ c ∧ c < n) : f_number_of [.int n, .int r, .int c] = .ok (.sh (.int (num n r c))) := by
  unfold num
  have hn' := hn
  obtain ⟨h0, h9⟩ := hn'
  have m1 : mulOk r n = true := mulOk_m (by omega) (by omega) (by omega) (by omega)
  have m2 : mulOk n n = true := mulOk_m (by omega) (by omega) (by omega) (by omega)
  have m3 : ∀ x, mulOk 4 x = true := fun x => mulOk_l (by omega) (by omega)
  have d1 : ∀ x, divOk x 2 = true := fun x => divOk_s (by omega) (by omega)
  by_cases e1 : n % 2 = 1
  · simp (disch := omega) only [f_number_of, g_number_of, sSeq_e, then_nx, then_rt, then_ex, fin_ok, fin_ex, sSet_e, sOwn_e, sRet_e, sExpr_e, sRetVar_e, retN_sh, retN_ow, retN_ow2, sIf_e, selS_t, selS_f, selE_t, selE_f, stf_f, stf_t, bind_ok, bind_ex, dat_sh, dat_ow, dat_ow2, dat_ex, ofO_some, eVar_e, eOp_e, eUn_e, eIf_e, fB_e, dB_bl, fAnd_e, fOr_e, andT_t, andT_f, andT_x, orT_t, orT_f, orT_x, fNot_e, eAnd_e, eOr_e, andE_t, andE_f, orE_t, orE_f, eNot_e, dN_bl, eCh_e, chN_t, chN_f, eCh3_e, chN2_t, chN2_f, aCons_e, aNil_e, eLst_e, eTup_e, eCall_e, eFn_e, eC_e, sTgt_e, tgtN_some, sPar_e, parN_e, sRaise_e, sNil_e, eTab_e, tabN_e, eIndexT_e, idxN_e, endS_rt, endS_nx, endS_ex, view_sh, view_ow, view_ow2, shs_cons, shs_nil, shO_sh, shO_dead, shO_ow, shO_ow2, setR_c, setR_n, un1_e, unT_e, oNone_e, oSome_e, dI_int, fDef, List.map_cons, List.map_nil, List.append_nil, List.nil_append, List.cons_append, List.replicate_succ, List.replicate_zero, List.length_cons, List.length_nil, List.set_cons_zero, List.set_cons_succ, List.getElem?_cons_zero, List.getElem?_cons_succ, Nat.sub_zero, Nat.reduceSub, Nat.reduceAdd, Nat.reduceLeDiff, if_true, if_false, ite_true, ite_false, Bool.false_eq_true, decide_true, decide_false, Bool.not_true, Bool.not_false, kSub_int, kAdd_int, kLt_int, kLe_int, kGt_int, kGe_int, kEq_int, kNe_int, kMod_int, kEq_pair, kNe_pair, Bool.and_true, Bool.and_false, Bool.true_and, Bool.false_and, beq_i e1, ev_odd_number hn, if_pos e1]
  · by_cases e2 : n % 4 = 0
    · simp only [if_neg e1, if_pos e2, fourN]
      by_cases e3 : back r c = true
      · simp (disch := first | omega | assumption) only [f_number_of, g_number_of, sSeq_e, then_nx, then_rt, then_ex, fin_ok, fin_ex, sSet_e, sOwn_e, sRet_e, sExpr_e, sRetVar_e, retN_sh, retN_ow, retN_ow2, sIf_e, selS_t, selS_f, selE_t, selE_f, stf_f, stf_t, bind_ok, bind_ex, dat_sh, dat_ow, dat_ow2, dat_ex, ofO_some, eVar_e, eOp_e, eUn_e, eIf_e, fB_e, dB_bl, fAnd_e, fOr_e, andT_t, andT_f, andT_x, orT_t, orT_f, orT_x, fNot_e, eAnd_e, eOr_e, andE_t, andE_f, orE_t, orE_f, eNot_e, dN_bl, eCh_e, chN_t, chN_f, eCh3_e, chN2_t, chN2_f, aCons_e, aNil_e, eLst_e, eTup_e, eCall_e, eFn_e, eC_e, sTgt_e, tgtN_some, sPar_e, parN_e, sRaise_e, sNil_e, eTab_e, tabN_e, eIndexT_e, idxN_e, endS_rt, endS_nx, endS_ex, view_sh, view_ow, view_ow2, shs_cons, shs_nil, shO_sh, shO_dead, shO_ow, shO_ow2, setR_c, setR_n, un1_e, unT_e, oNone_e, oSome_e, dI_int, fDef, List.map_cons, List.map_nil, List.append_nil, List.nil_append, List.cons_append, List.replicate_succ, List.replicate_zero, List.length_cons, List.length_nil, List.set_cons_zero, List.set_cons_succ, List.getElem?_cons_zero, List.getElem?_cons_succ, Nat.sub_zero, Nat.reduceSub, Nat.reduceAdd, Nat.reduceLeDiff, if_true, if_false, ite_true, ite_false, Bool.false_eq_true, decide_true, decide_false, Bool.not_true, Bool.not_false, kSub_int, kAdd_int, kLt_int, kLe_int, kGt_int, kGe_int, kEq_int, kNe_int, kMod_int, kEq_pair, kNe_pair, Bool.and_true, Bool.and_false, Bool.true_and, Bool.false_and, bne_i e1, beq_i e2, kMul_int, ev_is_back, e3]
      · simp only [Bool.not_eq_true] at e3
        simp (disch := first | omega | assumption) only [f_number_of, g_number_of, sSeq_e, then_nx, then_rt, then_ex, fin_ok, fin_ex, sSet_e, sOwn_e, sRet_e, sExpr_e, sRetVar_e, retN_sh, retN_ow, retN_ow2, sIf_e, selS_t, selS_f, selE_t, selE_f, stf_f, stf_t, bind_ok, bind_ex, dat_sh, dat_ow, dat_ow2, dat_ex, ofO_some, eVar_e, eOp_e, eUn_e, eIf_e, fB_e, dB_bl, fAnd_e, fOr_e, andT_t, andT_f, andT_x, orT_t, orT_f, orT_x, fNot_e, eAnd_e, eOr_e, andE_t, andE_f, orE_t, orE_f, eNot_e, dN_bl, eCh_e, chN_t, chN_f, eCh3_e, chN2_t, chN2_f, aCons_e, aNil_e, eLst_e, eTup_e, eCall_e, eFn_e, eC_e, sTgt_e, tgtN_some, sPar_e, parN_e, sRaise_e, sNil_e, eTab_e, tabN_e, eIndexT_e, idxN_e, endS_rt, endS_nx, endS_ex, view_sh, view_ow, view_ow2, shs_cons, shs_nil, shO_sh, shO_dead, shO_ow, shO_ow2, setR_c, setR_n, un1_e, unT_e, oNone_e, oSome_e, dI_int, fDef, List.map_cons, List.map_nil, List.append_nil, List.nil_append, List.cons_append, List.replicate_succ, List.replicate_zero, List.length_cons, List.length_nil, List.set_cons_zero, List.set_cons_succ, List.getElem?_cons_zero, List.getElem?_cons_succ, Nat.sub_zero, Nat.reduceSub, Nat.reduceAdd, Nat.reduceLeDiff, if_true, if_false, ite_true, ite_false, Bool.false_eq_true, decide_true, decide_false, Bool.not_true, Bool.not_false, kSub_int, kAdd_int, kLt_int, kLe_int, kGt_int, kGe_int, kEq_int, kNe_int, kMod_int, kEq_pair, kNe_pair, Bool.and_true, Bool.and_false, Bool.true_and, Bool.false_and, bne_i e1, beq_i e2, kMul_int, ev_is_back, e3]
    · simp only [if_neg e1, if_neg e2, luxN]
      have hb : Big (n / 2) := ⟨by omega, by omega⟩
      simp (disch := first | omega | assumption) only [f_number_of, g_number_of, sSeq_e, then_nx, then_rt, then_ex, fin_ok, fin_ex, sSet_e, sOwn_e, sRet_e, sExpr_e, sRetVar_e, retN_sh, retN_ow, retN_ow2, sIf_e, selS_t, selS_f, selE_t, selE_f, stf_f, stf_t, bind_ok, bind_ex, dat_sh, dat_ow, dat_ow2, dat_ex, ofO_some, eVar_e, eOp_e, eUn_e, eIf_e, fB_e, dB_bl, fAnd_e, fOr_e, andT_t, andT_f, andT_x, orT_t, orT_f, orT_x, fNot_e, eAnd_e, eOr_e, andE_t, andE_f, orE_t, orE_f, eNot_e, dN_bl, eCh_e, chN_t, chN_f, eCh3_e, chN2_t, chN2_f, aCons_e, aNil_e, eLst_e, eTup_e, eCall_e, eFn_e, eC_e, sTgt_e, tgtN_some, sPar_e, parN_e, sRaise_e, sNil_e, eTab_e, tabN_e, eIndexT_e, idxN_e, endS_rt, endS_nx, endS_ex, view_sh, view_ow, view_ow2, shs_cons, shs_nil, shO_sh, shO_dead, shO_ow, shO_ow2, setR_c, setR_n, un1_e, unT_e, oNone_e, oSome_e, dI_int, fDef, List.map_cons, List.map_nil, List.append_nil, List.nil_append, List.cons_append, List.replicate_succ, List.replicate_zero, List.length_cons, List.length_nil, List.set_cons_zero, List.set_cons_succ, List.getElem?_cons_zero, List.getElem?_cons_succ, Nat.sub_zero, Nat.reduceSub, Nat.reduceAdd, Nat.reduceLeDiff, if_true, if_false, ite_true, ite_false, Bool.false_eq_true, decide_true, decide_false, Bool.not_true, Bool.not_false, kSub_int, kAdd_int, kLt_int, kLe_int, kGt_int, kGe_int, kEq_int, kNe_int, kMod_int, kEq_pair, kNe_pair, Bool.and_true, Bool.and_false, Bool.true_and, Bool.false_and, bne_i e1, bne_i e2, (fun x => kMul_int (m3 x)), (fun x => kDiv_int (d1 x)), ev_letter hb, (fun z => tabN_e (tab_lx z)), ev_odd_number hb, lx_index]
theorem ev_asked_order {n : Int} (h1 : 1 ≤ n) (h2 : n ≠ 2) : f_asked_order [.int n] = .ok (.sh .non) := by
  have a : ¬ n < 1 := by omega
  simp only [f_asked_order, g_asked_order, sSeq_e, then_nx, then_rt, then_ex, fin_ok, fin_ex, sSet_e, sOwn_e, sRet_e, sExpr_e, sRetVar_e, retN_sh, retN_ow, retN_ow2, sIf_e, selS_t, selS_f, selE_t, selE_f, stf_f, stf_t, bind_ok, bind_ex, dat_sh, dat_ow, dat_ow2, dat_ex, ofO_some, eVar_e, eOp_e, eUn_e, eIf_e, fB_e, dB_bl, fAnd_e, fOr_e, andT_t, andT_f, andT_x, orT_t, orT_f, orT_x, fNot_e, eAnd_e, eOr_e, andE_t, andE_f, orE_t, orE_f, eNot_e, dN_bl, eCh_e, chN_t, chN_f, eCh3_e, chN2_t, chN2_f, aCons_e, aNil_e, eLst_e, eTup_e, eCall_e, eFn_e, eC_e, sTgt_e, tgtN_some, sPar_e, parN_e, sRaise_e, sNil_e, eTab_e, tabN_e, eIndexT_e, idxN_e, endS_rt, endS_nx, endS_ex, view_sh, view_ow, view_ow2, shs_cons, shs_nil, shO_sh, shO_dead, shO_ow, shO_ow2, setR_c, setR_n, un1_e, unT_e, oNone_e, oSome_e, dI_int, fDef, List.map_cons, List.map_nil, List.append_nil, List.nil_append, List.cons_append, List.replicate_succ, List.replicate_zero, List.length_cons, List.length_nil, List.set_cons_zero, List.set_cons_succ, List.getElem?_cons_zero, List.getElem?_cons_succ, Nat.sub_zero, Nat.reduceSub, Nat.reduceAdd, Nat.reduceLeDiff, if_true, if_false, ite_true, ite_false, Bool.false_eq_true, decide_true, decide_false, Bool.not_true, Bool.not_false, kSub_int, kAdd_int, kLt_int, kLe_int, kGt_int, kGe_int, kEq_int, kNe_int, kMod_int, kEq_pair, kNe_pair, Bool.and_true, Bool.and_false, Bool.true_and, Bool.false_and, ev_is_number, decide_eq_false a, bne_i h2]
theorem ev_number_at {n r c : Int} (hn : Big n) (h2 : n ≠ 2) (hr : 0 ≤ r ∧ r < n) (hc : 0 ≤ c ∧ c < n) : f_number_at [.int n, .int r, .int c] = .ok (.sh (.int (num n r c))) := by
  have h0 := hn.1
  simp only [f_number_at, g_number_at, sFor_e, iL_e, loop_un1, loopN_nx, loopF_nil, sSeq_e, then_nx, then_rt, then_ex, fin_ok, fin_ex, sSet_e, sOwn_e, sRet_e, sExpr_e, sRetVar_e, retN_sh, retN_ow, retN_ow2, sIf_e, selS_t, selS_f, selE_t, selE_f, stf_f, stf_t, bind_ok, bind_ex, dat_sh, dat_ow, dat_ow2, dat_ex, ofO_some, eVar_e, eOp_e, eUn_e, eIf_e, fB_e, dB_bl, fAnd_e, fOr_e, andT_t, andT_f, andT_x, orT_t, orT_f, orT_x, fNot_e, eAnd_e, eOr_e, andE_t, andE_f, orE_t, orE_f, eNot_e, dN_bl, eCh_e, chN_t, chN_f, eCh3_e, chN2_t, chN2_f, aCons_e, aNil_e, eLst_e, eTup_e, eCall_e, eFn_e, eC_e, sTgt_e, tgtN_some, sPar_e, parN_e, sRaise_e, sNil_e, eTab_e, tabN_e, eIndexT_e, idxN_e, endS_rt, endS_nx, endS_ex, view_sh, view_ow, view_ow2, shs_cons, shs_nil, shO_sh, shO_dead, shO_ow, shO_ow2, setR_c, setR_n, un1_e, unT_e, oNone_e, oSome_e, dI_int, fDef, List.map_cons, List.map_nil, List.append_nil, List.nil_append, List.cons_append, List.replicate_succ, List.replicate_zero, List.length_cons, List.length_nil, List.set_cons_zero, List.set_cons_succ, List.getElem?_cons_zero, List.getElem?_cons_succ, Nat.sub_zero, Nat.reduceSub, Nat.reduceAdd, Nat.reduceLeDiff, if_true, if_false, ite_true, ite_false, Bool.false_eq_true, decide_true, decide_false, Bool.not_true, Bool.not_false, kSub_int, kAdd_int, kLt_int, kLe_int, kGt_int, kGe_int, kEq_int, kNe_int, kMod_int, kEq_pair, kNe_pair, Bool.and_true, Bool.and_false, Bool.true_and, Bool.false_and, ev_asked_order h0 h2, ev_is_number, decide_eq_true hr.1, decide_eq_true hr.2, decide_eq_true hc.1, decide_eq_true hc.2, ev_number_of hn hr hc]
theorem ev_place_of {n k : Int} (hn : Big n) (h2 : n ≠ 2) (h3 : 1 ≤ k) (h4 : k ≤ n * n) : f_place_of [.int n, .int k] = .ok (.sh (.tup [.int (plR n k), .int (plC n k)])) := by
  unfold plR plC
  have hn' := hn
  obtain ⟨h0, h9⟩ := hn'
  have m2 : mulOk n n = true := mulOk_m (by omega) (by omega) (by omega) (by omega)
  have m3 : ∀ x, mulOk 2 x = true := fun x => mulOk_l (by omega) (by omega)
  have d1 : ∀ x, divOk x 2 = true := fun x => divOk_s (by omega) (by omega)
  have d4 : ∀ x, divOk x 4 = true := fun x => divOk_s (by omega) (by omega)
  have dn : ∀ x, divOk x n = true := fun x => divOk_m h0 (by omega)
  by_cases e1 : n % 2 = 1
  · simp (disch := first | omega | assumption) only [f_place_of, g_place_of, sSeq_e, then_nx, then_rt, then_ex, fin_ok, fin_ex, sSet_e, sOwn_e, sRet_e, sExpr_e, sRetVar_e, retN_sh, retN_ow, retN_ow2, sIf_e, selS_t, selS_f, selE_t, selE_f, stf_f, stf_t, bind_ok, bind_ex, dat_sh, dat_ow, dat_ow2, dat_ex, ofO_some, eVar_e, eOp_e, eUn_e, eIf_e, fB_e, dB_bl, fAnd_e, fOr_e, andT_t, andT_f, andT_x, orT_t, orT_f, orT_x, fNot_e, eAnd_e, eOr_e, andE_t, andE_f, orE_t, orE_f, eNot_e, dN_bl, eCh_e, chN_t, chN_f, eCh3_e, chN2_t, chN2_f, aCons_e, aNil_e, eLst_e, eTup_e, eCall_e, eFn_e, eC_e, sTgt_e, tgtN_some, sPar_e, parN_e, sRaise_e, sNil_e, eTab_e, tabN_e, eIndexT_e, idxN_e, endS_rt, endS_nx, endS_ex, view_sh, view_ow, view_ow2, shs_cons, shs_nil, shO_sh, shO_dead, shO_ow, shO_ow2, setR_c, setR_n, un1_e, unT_e, oNone_e, oSome_e, dI_int, fDef, List.map_cons, List.map_nil, List.append_nil, List.nil_append, List.cons_append, List.replicate_succ, List.replicate_zero, List.length_cons, List.length_nil, List.set_cons_zero, List.set_cons_succ, List.getElem?_cons_zero, List.getElem?_cons_succ, Nat.sub_zero, Nat.reduceSub, Nat.reduceAdd, Nat.reduceLeDiff, if_true, if_false, ite_true, ite_false, Bool.false_eq_true, decide_true, decide_false, Bool.not_true, Bool.not_false, kSub_int, kAdd_int, kLt_int, kLe_int, kGt_int, kGe_int, kEq_int, kNe_int, kMod_int, kEq_pair, kNe_pair, Bool.and_true, Bool.and_false, Bool.true_and, Bool.false_and, ev_asked_order h0 h2, ev_is_number, kMul_int, decide_eq_true h3, decide_eq_true h4, beq_i e1, ev_odd_place hn, if_pos e1]
  · by_cases e2 : n % 4 = 0
    · simp only [if_neg e1, if_pos e2, fourR, fourC]
      by_cases e3 : back ((k - 1) / n) ((k - 1) % n) = true
      · simp (disch := first | omega | assumption) only [f_place_of, g_place_of, sSeq_e, then_nx, then_rt, then_ex, fin_ok, fin_ex, sSet_e, sOwn_e, sRet_e, sExpr_e, sRetVar_e, retN_sh, retN_ow, retN_ow2, sIf_e, selS_t, selS_f, selE_t, selE_f, stf_f, stf_t, bind_ok, bind_ex, dat_sh, dat_ow, dat_ow2, dat_ex, ofO_some, eVar_e, eOp_e, eUn_e, eIf_e, fB_e, dB_bl, fAnd_e, fOr_e, andT_t, andT_f, andT_x, orT_t, orT_f, orT_x, fNot_e, eAnd_e, eOr_e, andE_t, andE_f, orE_t, orE_f, eNot_e, dN_bl, eCh_e, chN_t, chN_f, eCh3_e, chN2_t, chN2_f, aCons_e, aNil_e, eLst_e, eTup_e, eCall_e, eFn_e, eC_e, sTgt_e, tgtN_some, sPar_e, parN_e, sRaise_e, sNil_e, eTab_e, tabN_e, eIndexT_e, idxN_e, endS_rt, endS_nx, endS_ex, view_sh, view_ow, view_ow2, shs_cons, shs_nil, shO_sh, shO_dead, shO_ow, shO_ow2, setR_c, setR_n, un1_e, unT_e, oNone_e, oSome_e, dI_int, fDef, List.map_cons, List.map_nil, List.append_nil, List.nil_append, List.cons_append, List.replicate_succ, List.replicate_zero, List.length_cons, List.length_nil, List.set_cons_zero, List.set_cons_succ, List.getElem?_cons_zero, List.getElem?_cons_succ, Nat.sub_zero, Nat.reduceSub, Nat.reduceAdd, Nat.reduceLeDiff, if_true, if_false, ite_true, ite_false, Bool.false_eq_true, decide_true, decide_false, Bool.not_true, Bool.not_false, kSub_int, kAdd_int, kLt_int, kLe_int, kGt_int, kGe_int, kEq_int, kNe_int, kMod_int, kEq_pair, kNe_pair, Bool.and_true, Bool.and_false, Bool.true_and, Bool.false_and, ev_asked_order h0 h2, ev_is_number, kMul_int, decide_eq_true h3, decide_eq_true h4, bne_i e1, beq_i e2, (fun x => kDivmod_int (dn x)), ev_is_back, e3]
      · simp only [Bool.not_eq_true] at e3
        simp (disch := first | omega | assumption) only [f_place_of, g_place_of, sSeq_e, then_nx, then_rt, then_ex, fin_ok, fin_ex, sSet_e, sOwn_e, sRet_e, sExpr_e, sRetVar_e, retN_sh, retN_ow, retN_ow2, sIf_e, selS_t, selS_f, selE_t, selE_f, stf_f, stf_t, bind_ok, bind_ex, dat_sh, dat_ow, dat_ow2, dat_ex, ofO_some, eVar_e, eOp_e, eUn_e, eIf_e, fB_e, dB_bl, fAnd_e, fOr_e, andT_t, andT_f, andT_x, orT_t, orT_f, orT_x, fNot_e, eAnd_e, eOr_e, andE_t, andE_f, orE_t, orE_f, eNot_e, dN_bl, eCh_e, chN_t, chN_f, eCh3_e, chN2_t, chN2_f, aCons_e, aNil_e, eLst_e, eTup_e, eCall_e, eFn_e, eC_e, sTgt_e, tgtN_some, sPar_e, parN_e, sRaise_e, sNil_e, eTab_e, tabN_e, eIndexT_e, idxN_e, endS_rt, endS_nx, endS_ex, view_sh, view_ow, view_ow2, shs_cons, shs_nil, shO_sh, shO_dead, shO_ow, shO_ow2, setR_c, setR_n, un1_e, unT_e, oNone_e, oSome_e, dI_int, fDef, List.map_cons, List.map_nil, List.append_nil, List.nil_append, List.cons_append, List.replicate_succ, List.replicate_zero, List.length_cons, List.length_nil, List.set_cons_zero, List.set_cons_succ, List.getElem?_cons_zero, List.getElem?_cons_succ, Nat.sub_zero, Nat.reduceSub, Nat.reduceAdd, Nat.reduceLeDiff, if_true, if_false, ite_true, ite_false, Bool.false_eq_true, decide_true, decide_false, Bool.not_true, Bool.not_false, kSub_int, kAdd_int, kLt_int, kLe_int, kGt_int, kGe_int, kEq_int, kNe_int, kMod_int, kEq_pair, kNe_pair, Bool.and_true, Bool.and_false, Bool.true_and, Bool.false_and, ev_asked_order h0 h2, ev_is_number, kMul_int, decide_eq_true h3, decide_eq_true h4, bne_i e1, beq_i e2, (fun x => kDivmod_int (dn x)), ev_is_back, e3]
    · simp only [if_neg e1, if_neg e2, luxR, luxC, luxS]
      have hb : Big (n / 2) := ⟨by omega, by omega⟩
      simp (disch := first | omega | assumption) only [f_place_of, g_place_of, sSeq_e, then_nx, then_rt, then_ex, fin_ok, fin_ex, sSet_e, sOwn_e, sRet_e, sExpr_e, sRetVar_e, retN_sh, retN_ow, retN_ow2, sIf_e, selS_t, selS_f, selE_t, selE_f, stf_f, stf_t, bind_ok, bind_ex, dat_sh, dat_ow, dat_ow2, dat_ex, ofO_some, eVar_e, eOp_e, eUn_e, eIf_e, fB_e, dB_bl, fAnd_e, fOr_e, andT_t, andT_f, andT_x, orT_t, orT_f, orT_x, fNot_e, eAnd_e, eOr_e, andE_t, andE_f, orE_t, orE_f, eNot_e, dN_bl, eCh_e, chN_t, chN_f, eCh3_e, chN2_t, chN2_f, aCons_e, aNil_e, eLst_e, eTup_e, eCall_e, eFn_e, eC_e, sTgt_e, tgtN_some, sPar_e, parN_e, sRaise_e, sNil_e, eTab_e, tabN_e, eIndexT_e, idxN_e, endS_rt, endS_nx, endS_ex, view_sh, view_ow, view_ow2, shs_cons, shs_nil, shO_sh, shO_dead, shO_ow, shO_ow2, setR_c, setR_n, un1_e, unT_e, oNone_e, oSome_e, dI_int, fDef, List.map_cons, List.map_nil, List.append_nil, List.nil_append, List.cons_append, List.replicate_succ, List.replicate_zero, List.length_cons, List.length_nil, List.set_cons_zero, List.set_cons_succ, List.getElem?_cons_zero, List.getElem?_cons_succ, Nat.sub_zero, Nat.reduceSub, Nat.reduceAdd, Nat.reduceLeDiff, if_true, if_false, ite_true, ite_false, Bool.false_eq_true, decide_true, decide_false, Bool.not_true, Bool.not_false, kSub_int, kAdd_int, kLt_int, kLe_int, kGt_int, kGe_int, kEq_int, kNe_int, kMod_int, kEq_pair, kNe_pair, Bool.and_true, Bool.and_false, Bool.true_and, Bool.false_and, ev_asked_order h0 h2, ev_is_number, kMul_int, decide_eq_true h3, decide_eq_true h4, bne_i e1, bne_i e2, (fun x => kMul_int (m3 x)), (fun x => kDiv_int (d1 x)), (fun x => kDiv_int (d4 x)), ev_letter hb, (fun z => tabN_e (tab_lx z)), ev_odd_place hb, lx_ix]
theorem sq_big {n : Int} (h : 0 < n ∧ n < 10 ^ 41) : 0 < n * n ∧ n * n < 10 ^ 82 := by
  have h1 : n * n ≤ (10 ^ 41 - 1) * (10 ^ 41 - 1) := Int.mul_le_mul (by omega) (by omega) (by omega) (by omega)
  have h2 : 0 < n * n := Int.mul_pos h.1 h.1
  have h3 : ((10 ^ 41 - 1) * (10 ^ 41 - 1) : Int) < 10 ^ 82 := by decide
  omega
theorem ev_total {n : Int} (hn : Big n) (h2 : n ≠ 2) : f_total [.int n] = .ok (.sh (.int (n * (n * n + 1) / 2))) := by
  have hq := sq_big hn
  obtain ⟨h0, h9⟩ := hn
  have m2 : mulOk n n = true := mulOk_m (by omega) (by omega) (by omega) (by omega)
  have m3 : mulOk n (n * n + 1) = true := mulOk_m (by omega) (by omega) (by omega) (by omega)
  have d1 : ∀ x, divOk x 2 = true := fun x => divOk_s (by omega) (by omega)
  simp (disch := first | omega | assumption) only [f_total, g_total, sSeq_e, then_nx, then_rt, then_ex, fin_ok, fin_ex, sSet_e, sOwn_e, sRet_e, sExpr_e, sRetVar_e, retN_sh, retN_ow, retN_ow2, sIf_e, selS_t, selS_f, selE_t, selE_f, stf_f, stf_t, bind_ok, bind_ex, dat_sh, dat_ow, dat_ow2, dat_ex, ofO_some, eVar_e, eOp_e, eUn_e, eIf_e, fB_e, dB_bl, fAnd_e, fOr_e, andT_t, andT_f, andT_x, orT_t, orT_f, orT_x, fNot_e, eAnd_e, eOr_e, andE_t, andE_f, orE_t, orE_f, eNot_e, dN_bl, eCh_e, chN_t, chN_f, eCh3_e, chN2_t, chN2_f, aCons_e, aNil_e, eLst_e, eTup_e, eCall_e, eFn_e, eC_e, sTgt_e, tgtN_some, sPar_e, parN_e, sRaise_e, sNil_e, eTab_e, tabN_e, eIndexT_e, idxN_e, endS_rt, endS_nx, endS_ex, view_sh, view_ow, view_ow2, shs_cons, shs_nil, shO_sh, shO_dead, shO_ow, shO_ow2, setR_c, setR_n, un1_e, unT_e, oNone_e, oSome_e, dI_int, fDef, List.map_cons, List.map_nil, List.append_nil, List.nil_append, List.cons_append, List.replicate_succ, List.replicate_zero, List.length_cons, List.length_nil, List.set_cons_zero, List.set_cons_succ, List.getElem?_cons_zero, List.getElem?_cons_succ, Nat.sub_zero, Nat.reduceSub, Nat.reduceAdd, Nat.reduceLeDiff, if_true, if_false, ite_true, ite_false, Bool.false_eq_true, decide_true, decide_false, Bool.not_true, Bool.not_false, kSub_int, kAdd_int, kLt_int, kLe_int, kGt_int, kGe_int, kEq_int, kNe_int, kMod_int, kEq_pair, kNe_pair, Bool.and_true, Bool.and_false, Bool.true_and, Bool.false_and, ev_asked_order h0 h2, kMul_int m2, kMul_int m3, (fun x => kDiv_int (d1 x))]

end K08

namespace K08
open PySem PySem.Spec PyProof.Rows L2 G6
section
variable {n : Nat} {f g : Nat → Nat → Int}
theorem copy_lc {v j : Nat} {ρ : Rho} (hn : n ≤ 10000) (h0 : dat (eVar v ρ) = .ok (dM (tb n n f))) (hj : ∀ d : Da, eVar j ((wipeR ρ [j]).set j (.sh d)) = .ok (.sh d)) : eLc2 (iL asL (eVar v)) [j] un1 [j] (eCall kList (aCons (eVar j) (aNil))) ρ = .ok (.ow2 (dD (tb n n f))) := by
  have := eLc2_ok (fI := iL asL (eVar v)) (is := [j]) (un := un1) (vs := [j]) (fe := eCall kList (aCons (eVar j) (aNil))) (ρ := ρ) (items := (List.range n).map fun r => rowD n (f r)) (fun d => match kList [d] with | some (.ow ys) => ys | _ => [])
    (by rw [iL_e, h0, bind_ok, asL_dMtb, ofO_some]) (by simp; omega) (fun d hd => elO_un1 (by
      obtain ⟨r, hr, rfl⟩ := List.mem_map.mp hd
      simp only [eCall_e, aCons_e, aNil_e, hj, dat_sh, bind_ok, kList_rowD, ofO_some]))
  rw [this, dD_tb', List.map_map]
  rfl
/-- the at-th item of each row -/
theorem col_lc {ρ : Rho} {r : Nat} {F : Sem1} {rows : List Da} (hr : r < n) (hn : n ≤ 10000) {h : Nat → Nat → Int} (hF : dat (F ρ) = .ok (.lst ((List.range n).map fun k => rowD n (h k)))) (h4 : ∀ d : Da, eVar 4 ((wipeR ρ [4]).set 4 (.sh d)) = .ok (.sh d)) (h5 : ∀ d : Da, eVar 5 ((wipeR ρ [4]).set 4 (.sh d)) = .ok (.sh (.int (r : Int)))) :
    eLc (iL asL F) [4] un1 [4] (eOp kIx (eVar 4) (eVar 5)) ρ = .ok (.ow ((List.range n).map fun k => Da.int (h k r))) := by
  have := eLc_ok (fI := iL asL F) (is := [4]) (un := un1) (vs := [4]) (fe := eOp kIx (eVar 4) (eVar 5)) (ρ := ρ) (items := (List.range n).map fun k => rowD n (h k)) (fun d => match kIx d (.int (r : Int)) with | some (.sh y) => y | _ => .non)
    (by rw [iL_e, hF, bind_ok, asL_lst, ofO_some]) (by simp; omega) (fun d hd => elD_un1 (by
      obtain ⟨k, hk, rfl⟩ := List.mem_map.mp hd
      simp only [eOp_e, h4, h5, dat_sh, bind_ok, kIx_rowD hr, ofO_some]))
  rw [this, List.map_map]
  congr 2
  refine List.map_congr_left fun k _ => ?_
  show (match kIx (rowD n (h k)) (.int (r : Int)) with | some (.sh y) => y | _ => .non) = _
  rw [kIx_rowD hr]
theorem kRev_dM : kRev (dM (tb n n f)) = some (.ow ((List.range n).map fun k => rowD n (f (n - 1 - k)))) := by
  unfold kRev
  rw [asL_dMtb]
  show some (Sl.ow (((List.range n).map fun r => rowD n (f r)).reverse)) = _
  rw [rev_map_range]
theorem grid_lc {ρ : Rho} {fe : Sem1} {h : Nat → Nat → Int} (hn : n ≤ 10000) (hI : iR1 (aCons (eCall kLen (aCons (eVar 2) (aNil))) (aNil)) ρ = .ok ((List.range n).map fun (k : Nat) => Da.int (k : Int))) (he : ∀ r : Nat, r < n → fe ((wipeR ρ [5]).set 5 (.sh (.int (r : Int)))) = .ok (.ow ((List.range n).map fun c => Da.int (h r c)))) :
    eLc2 (iR1 (aCons (eCall kLen (aCons (eVar 2) (aNil))) (aNil))) [5] un1 [5] fe ρ = .ok (.ow2 (dD (tb n n h))) := by
  have := eLc2_ok (is := [5]) (un := un1) (vs := [5]) (fe := fe) (ρ := ρ) (fun d => match d with | .int r => (List.range n).map fun c => Da.int (h r.toNat c) | _ => []) hI (by simp; omega) (fun d hd => elO_un1 (by
      obtain ⟨k, hk, rfl⟩ := List.mem_map.mp hd
      rw [he k (List.mem_range.mp hk)]
      rfl))
  rw [this, dD_tb', List.map_map]
  rfl
theorem sep_dD {xss : List (List Int)} : sep (.ow2 (dD xss)) = true := by
  show (dD xss).all (fun xs => xs.all seps) = true
  rw [List.all_eq_true]
  intro xs hxs
  unfold dD at hxs
  obtain ⟨r, _, rfl⟩ := List.mem_map.mp hxs
  rw [List.all_eq_true]
  intro d hd
  obtain ⟨i, _, rfl⟩ := List.mem_map.mp hd
  rfl
theorem ev_turned (h0 : 0 < n) (hn : n ≤ 10000) {w : Nat} (hw : w < 8) : f_turned [dM (tb n n f), .int (w : Int)] = .ok (.ow2 (dD (tb n n (turnF n f w)))) := by
  have ha := ev_asked_square (tb_sq (n := n) (f := f)) h0 hn
  have w0 : (0 : Int) ≤ w := by omega
  have w8 : (w : Int) < 8 := by omega
  have rg : ∀ k : Nat, k ≤ 1000000 → rangeN (k : Int) = .ok ((List.range k).map fun (k : Nat) => Da.int (k : Int)) := fun k hk => rangeN_nat hk
  have l1 : eLc2 (iL asL (eVar 0)) [4] un1 [4] (eCall kList (aCons (eVar 4) (aNil))) [.sh (dM (tb n n f)), .sh (.int (w : Int)), .dead, .dead, .dead, .dead] = .ok (.ow2 (dD (tb n n f))) := copy_lc hn rfl (fun d => rfl)
  have l2 : ∀ h : Nat → Nat → Int, eLc2 (iR1 (aCons (eCall kLen (aCons (eVar 2) (aNil))) (aNil))) [5] un1 [5] (eLc (iL asL (eVar 2)) [4] un1 [4] (eOp kIx (eVar 4) (eVar 5))) [.sh (dM (tb n n f)), .sh (.int (w : Int)), .ow2 (dD (tb n n h)), .dead, .dead, .dead] = .ok (.ow2 (dD (tb n n fun r c => h c r))) := by
    intro h
    refine grid_lc hn (by simp only [iR1_e, sSeq_e, then_nx, then_rt, then_ex, fin_ok, fin_ex, sSet_e, sOwn_e, sRet_e, sExpr_e, sRetVar_e, retN_sh, retN_ow, retN_ow2, sIf_e, selS_t, selS_f, selE_t, selE_f, stf_f, stf_t, bind_ok, bind_ex, dat_sh, dat_ow, dat_ow2, dat_ex, ofO_some, eVar_e, eOp_e, eUn_e, eIf_e, fB_e, dB_bl, fAnd_e, fOr_e, andT_t, andT_f, andT_x, orT_t, orT_f, orT_x, fNot_e, eAnd_e, eOr_e, andE_t, andE_f, orE_t, orE_f, eNot_e, dN_bl, eCh_e, chN_t, chN_f, eCh3_e, chN2_t, chN2_f, aCons_e, aNil_e, eLst_e, eTup_e, eCall_e, eFn_e, eC_e, sTgt_e, tgtN_some, sPar_e, parN_e, sRaise_e, sNil_e, eTab_e, tabN_e, eIndexT_e, idxN_e, endS_rt, endS_nx, endS_ex, view_sh, view_ow, view_ow2, shs_cons, shs_nil, shO_sh, shO_dead, shO_ow, shO_ow2, setR_c, setR_n, un1_e, unT_e, oNone_e, oSome_e, dI_int, fDef, List.append_nil, List.nil_append, List.cons_append, List.replicate_succ, List.replicate_zero, List.length_cons, List.length_nil, List.set_cons_zero, List.set_cons_succ, List.getElem?_cons_zero, List.getElem?_cons_succ, Nat.sub_zero, Nat.reduceSub, Nat.reduceAdd, Nat.reduceLeDiff, if_true, if_false, ite_true, ite_false, Bool.false_eq_true, decide_true, decide_false, Bool.not_true, Bool.not_false, kSub_int, kAdd_int, kLt_int, kLe_int, kGt_int, kGe_int, kEq_int, kNe_int, kMod_int, kEq_pair, kNe_pair, Bool.and_true, Bool.and_false, Bool.true_and, Bool.false_and, lst_dD, kLen_dMtb, rN_int, rg n (by omega)]) fun r hr => ?_
    exact col_lc (rows := []) hr hn (by simp only [wipeR, sSeq_e, then_nx, then_rt, then_ex, fin_ok, fin_ex, sSet_e, sOwn_e, sRet_e, sExpr_e, sRetVar_e, retN_sh, retN_ow, retN_ow2, sIf_e, selS_t, selS_f, selE_t, selE_f, stf_f, stf_t, bind_ok, bind_ex, dat_sh, dat_ow, dat_ow2, dat_ex, ofO_some, eVar_e, eOp_e, eUn_e, eIf_e, fB_e, dB_bl, fAnd_e, fOr_e, andT_t, andT_f, andT_x, orT_t, orT_f, orT_x, fNot_e, eAnd_e, eOr_e, andE_t, andE_f, orE_t, orE_f, eNot_e, dN_bl, eCh_e, chN_t, chN_f, eCh3_e, chN2_t, chN2_f, aCons_e, aNil_e, eLst_e, eTup_e, eCall_e, eFn_e, eC_e, sTgt_e, tgtN_some, sPar_e, parN_e, sRaise_e, sNil_e, eTab_e, tabN_e, eIndexT_e, idxN_e, endS_rt, endS_nx, endS_ex, view_sh, view_ow, view_ow2, shs_cons, shs_nil, shO_sh, shO_dead, shO_ow, shO_ow2, setR_c, setR_n, un1_e, unT_e, oNone_e, oSome_e, dI_int, fDef, List.append_nil, List.nil_append, List.cons_append, List.replicate_succ, List.replicate_zero, List.length_cons, List.length_nil, List.set_cons_zero, List.set_cons_succ, List.getElem?_cons_zero, List.getElem?_cons_succ, Nat.sub_zero, Nat.reduceSub, Nat.reduceAdd, Nat.reduceLeDiff, if_true, if_false, ite_true, ite_false, Bool.false_eq_true, decide_true, decide_false, Bool.not_true, Bool.not_false, kSub_int, kAdd_int, kLt_int, kLe_int, kGt_int, kGe_int, kEq_int, kNe_int, kMod_int, kEq_pair, kNe_pair, Bool.and_true, Bool.and_false, Bool.true_and, Bool.false_and, lst_dD, dM_tb]) (fun d => rfl) (fun d => rfl)
  have l3 : ∀ (h : Nat → Nat → Int) (x3 : Sl), eLc2 (iR1 (aCons (eCall kLen (aCons (eVar 2) (aNil))) (aNil))) [5] un1 [5] (eLc (iL asL (eUn kRev (eVar 2))) [4] un1 [4] (eOp kIx (eVar 4) (eVar 5))) [.sh (dM (tb n n f)), .sh (.int (w : Int)), .ow2 (dD (tb n n h)), x3, .dead, .dead] = .ok (.ow2 (dD (tb n n fun r c => h (n - 1 - c) r))) := by
    intro h x3
    refine grid_lc hn (by simp only [iR1_e, sSeq_e, then_nx, then_rt, then_ex, fin_ok, fin_ex, sSet_e, sOwn_e, sRet_e, sExpr_e, sRetVar_e, retN_sh, retN_ow, retN_ow2, sIf_e, selS_t, selS_f, selE_t, selE_f, stf_f, stf_t, bind_ok, bind_ex, dat_sh, dat_ow, dat_ow2, dat_ex, ofO_some, eVar_e, eOp_e, eUn_e, eIf_e, fB_e, dB_bl, fAnd_e, fOr_e, andT_t, andT_f, andT_x, orT_t, orT_f, orT_x, fNot_e, eAnd_e, eOr_e, andE_t, andE_f, orE_t, orE_f, eNot_e, dN_bl, eCh_e, chN_t, chN_f, eCh3_e, chN2_t, chN2_f, aCons_e, aNil_e, eLst_e, eTup_e, eCall_e, eFn_e, eC_e, sTgt_e, tgtN_some, sPar_e, parN_e, sRaise_e, sNil_e, eTab_e, tabN_e, eIndexT_e, idxN_e, endS_rt, endS_nx, endS_ex, view_sh, view_ow, view_ow2, shs_cons, shs_nil, shO_sh, shO_dead, shO_ow, shO_ow2, setR_c, setR_n, un1_e, unT_e, oNone_e, oSome_e, dI_int, fDef, List.append_nil, List.nil_append, List.cons_append, List.replicate_succ, List.replicate_zero, List.length_cons, List.length_nil, List.set_cons_zero, List.set_cons_succ, List.getElem?_cons_zero, List.getElem?_cons_succ, Nat.sub_zero, Nat.reduceSub, Nat.reduceAdd, Nat.reduceLeDiff, if_true, if_false, ite_true, ite_false, Bool.false_eq_true, decide_true, decide_false, Bool.not_true, Bool.not_false, kSub_int, kAdd_int, kLt_int, kLe_int, kGt_int, kGe_int, kEq_int, kNe_int, kMod_int, kEq_pair, kNe_pair, Bool.and_true, Bool.and_false, Bool.true_and, Bool.false_and, lst_dD, kLen_dMtb, rN_int, rg n (by omega)]) fun r hr => ?_
    exact col_lc (rows := []) (h := fun k => h (n - 1 - k)) hr hn (by simp only [wipeR, sSeq_e, then_nx, then_rt, then_ex, fin_ok, fin_ex, sSet_e, sOwn_e, sRet_e, sExpr_e, sRetVar_e, retN_sh, retN_ow, retN_ow2, sIf_e, selS_t, selS_f, selE_t, selE_f, stf_f, stf_t, bind_ok, bind_ex, dat_sh, dat_ow, dat_ow2, dat_ex, ofO_some, eVar_e, eOp_e, eUn_e, eIf_e, fB_e, dB_bl, fAnd_e, fOr_e, andT_t, andT_f, andT_x, orT_t, orT_f, orT_x, fNot_e, eAnd_e, eOr_e, andE_t, andE_f, orE_t, orE_f, eNot_e, dN_bl, eCh_e, chN_t, chN_f, eCh3_e, chN2_t, chN2_f, aCons_e, aNil_e, eLst_e, eTup_e, eCall_e, eFn_e, eC_e, sTgt_e, tgtN_some, sPar_e, parN_e, sRaise_e, sNil_e, eTab_e, tabN_e, eIndexT_e, idxN_e, endS_rt, endS_nx, endS_ex, view_sh, view_ow, view_ow2, shs_cons, shs_nil, shO_sh, shO_dead, shO_ow, shO_ow2, setR_c, setR_n, un1_e, unT_e, oNone_e, oSome_e, dI_int, fDef, List.append_nil, List.nil_append, List.cons_append, List.replicate_succ, List.replicate_zero, List.length_cons, List.length_nil, List.set_cons_zero, List.set_cons_succ, List.getElem?_cons_zero, List.getElem?_cons_succ, Nat.sub_zero, Nat.reduceSub, Nat.reduceAdd, Nat.reduceLeDiff, if_true, if_false, ite_true, ite_false, Bool.false_eq_true, decide_true, decide_false, Bool.not_true, Bool.not_false, kSub_int, kAdd_int, kLt_int, kLe_int, kGt_int, kGe_int, kEq_int, kNe_int, kMod_int, kEq_pair, kNe_pair, Bool.and_true, Bool.and_false, Bool.true_and, Bool.false_and, lst_dD, kRev_dM]) (fun d => rfl) (fun d => rfl)
  have hw4 : (w : Int) % 4 = ((w % 4 : Nat) : Int) := by omega
  have loop : ∀ F : Nat → Nat → Int, ∃ x3, loopF [3] un1 (sOwn 2 true (eLc2 (iR1 (aCons (eCall kLen (aCons (eVar 2) (aNil))) (aNil))) [5] un1 [5] (eLc (iL asL (eUn kRev (eVar 2))) [4] un1 [4] (eOp kIx (eVar 4) (eVar 5))))) ((List.range (w % 4)).map fun (k : Nat) => Da.int (k : Int)) [.sh (dM (tb n n f)), .sh (.int (w : Int)), .ow2 (dD (tb n n F)), .dead, .dead, .dead]
      = .nx [.sh (dM (tb n n f)), .sh (.int (w : Int)), .ow2 (dD (tb n n fun r c => F (walkK n (w % 4) (r, c)).1 (walkK n (w % 4) (r, c)).2)), x3, .dead, .dead] := by
    intro F
    obtain ⟨ρ', e1, x3, e2⟩ := loop_range (i := 3) (n := w % 4) (g := sOwn 2 true (eLc2 (iR1 (aCons (eCall kLen (aCons (eVar 2) (aNil))) (aNil))) [5] un1 [5] (eLc (iL asL (eUn kRev (eVar 2))) [4] un1 [4] (eOp kIx (eVar 4) (eVar 5))))) (fun k ρ => ∃ x3, ρ = [.sh (dM (tb n n f)), .sh (.int (w : Int)), .ow2 (dD (tb n n fun r c => F (walkK n k (r, c)).1 (walkK n k (r, c)).2)), x3, .dead, .dead]) (fun k ρ hk ⟨x3, hρ⟩ => by
      subst hρ
      refine ⟨[.sh (dM (tb n n f)), .sh (.int (w : Int)), .ow2 (dD (tb n n fun r c => F (walkK n (k + 1) (r, c)).1 (walkK n (k + 1) (r, c)).2)), .sh (.int (k : Int)), .dead, .dead], ?_, _, rfl⟩
      simp only [List.set_cons_zero, List.set_cons_succ, sOwn_e, stf_t, l3, bind_ok, sep_dD, if_true, fin_ok]
      rfl) (ρ := [.sh (dM (tb n n f)), .sh (.int (w : Int)), .ow2 (dD (tb n n F)), .dead, .dead, .dead]) ⟨_, rfl⟩
    subst e2
    exact ⟨x3, e1⟩
  by_cases q : (3 : Int) < w
  · obtain ⟨x3, hl⟩ := loop fun r c => f c r
    have ht : turnF n f w = fun r c => (fun r c => f c r) (walkK n (w % 4) (r, c)).1 (walkK n (w % 4) (r, c)).2 := by
      unfold turnF wayT
      rw [if_pos (by omega)]
    rw [ht]
    simp (disch := omega) only [f_turned, g_turned, sSeq_e, then_nx, then_rt, then_ex, fin_ok, fin_ex, sSet_e, sOwn_e, sRet_e, sExpr_e, sRetVar_e, retN_sh, retN_ow, retN_ow2, sIf_e, selS_t, selS_f, selE_t, selE_f, stf_f, stf_t, bind_ok, bind_ex, dat_sh, dat_ow, dat_ow2, dat_ex, ofO_some, eVar_e, eOp_e, eUn_e, eIf_e, fB_e, dB_bl, fAnd_e, fOr_e, andT_t, andT_f, andT_x, orT_t, orT_f, orT_x, fNot_e, eAnd_e, eOr_e, andE_t, andE_f, orE_t, orE_f, eNot_e, dN_bl, eCh_e, chN_t, chN_f, eCh3_e, chN2_t, chN2_f, aCons_e, aNil_e, eLst_e, eTup_e, eCall_e, eFn_e, eC_e, sTgt_e, tgtN_some, sPar_e, parN_e, sRaise_e, sNil_e, eTab_e, tabN_e, eIndexT_e, idxN_e, endS_rt, endS_nx, endS_ex, view_sh, view_ow, view_ow2, shs_cons, shs_nil, shO_sh, shO_dead, shO_ow, shO_ow2, setR_c, setR_n, un1_e, unT_e, oNone_e, oSome_e, dI_int, fDef, List.append_nil, List.nil_append, List.cons_append, List.replicate_succ, List.replicate_zero, List.length_cons, List.length_nil, List.set_cons_zero, List.set_cons_succ, List.getElem?_cons_zero, List.getElem?_cons_succ, Nat.sub_zero, Nat.reduceSub, Nat.reduceAdd, Nat.reduceLeDiff, if_true, if_false, ite_true, ite_false, Bool.false_eq_true, decide_true, decide_false, Bool.not_true, Bool.not_false, kSub_int, kAdd_int, kLt_int, kLe_int, kGt_int, kGe_int, kEq_int, kNe_int, kMod_int, kEq_pair, kNe_pair, Bool.and_true, Bool.and_false, Bool.true_and, Bool.false_and, lst_dD, List.map_cons, List.map_nil, ha, ev_is_number, decide_eq_true w0, decide_eq_true w8, l1, decide_eq_true q, l2, sep_dD, sFor_e, iR1_e, rN_int, hw4, rg (w % 4) (by omega), hl]
  · obtain ⟨x3, hl⟩ := loop f
    have ht : turnF n f w = fun r c => f (walkK n (w % 4) (r, c)).1 (walkK n (w % 4) (r, c)).2 := by
      unfold turnF wayT
      rw [if_neg (by omega)]
    rw [ht]
    simp (disch := omega) only [f_turned, g_turned, sSeq_e, then_nx, then_rt, then_ex, fin_ok, fin_ex, sSet_e, sOwn_e, sRet_e, sExpr_e, sRetVar_e, retN_sh, retN_ow, retN_ow2, sIf_e, selS_t, selS_f, selE_t, selE_f, stf_f, stf_t, bind_ok, bind_ex, dat_sh, dat_ow, dat_ow2, dat_ex, ofO_some, eVar_e, eOp_e, eUn_e, eIf_e, fB_e, dB_bl, fAnd_e, fOr_e, andT_t, andT_f, andT_x, orT_t, orT_f, orT_x, fNot_e, eAnd_e, eOr_e, andE_t, andE_f, orE_t, orE_f, eNot_e, dN_bl, eCh_e, chN_t, chN_f, eCh3_e, chN2_t, chN2_f, aCons_e, aNil_e, eLst_e, eTup_e, eCall_e, eFn_e, eC_e, sTgt_e, tgtN_some, sPar_e, parN_e, sRaise_e, sNil_e, eTab_e, tabN_e, eIndexT_e, idxN_e, endS_rt, endS_nx, endS_ex, view_sh, view_ow, view_ow2, shs_cons, shs_nil, shO_sh, shO_dead, shO_ow, shO_ow2, setR_c, setR_n, un1_e, unT_e, oNone_e, oSome_e, dI_int, fDef, List.append_nil, List.nil_append, List.cons_append, List.replicate_succ, List.replicate_zero, List.length_cons, List.length_nil, List.set_cons_zero, List.set_cons_succ, List.getElem?_cons_zero, List.getElem?_cons_succ, Nat.sub_zero, Nat.reduceSub, Nat.reduceAdd, Nat.reduceLeDiff, if_true, if_false, ite_true, ite_false, Bool.false_eq_true, decide_true, decide_false, Bool.not_true, Bool.not_false, kSub_int, kAdd_int, kLt_int, kLe_int, kGt_int, kGe_int, kEq_int, kNe_int, kMod_int, kEq_pair, kNe_pair, Bool.and_true, Bool.and_false, Bool.true_and, Bool.false_and, lst_dD, List.map_cons, List.map_nil, ha, ev_is_number, decide_eq_true w0, decide_eq_true w8, l1, decide_eq_false q, sFor_e, iR1_e, rN_int, hw4, rg (w % 4) (by omega), hl]
end
end K08

namespace K08
open PySem PySem.Spec PyProof.Rows L2 G6
theorem ev_lines {n : Nat} (h : n ≤ 10000) : f_lines [.int (n : Int)] = .ok (.ow ((lns n).map lnD)) := by
  have l1 : ∀ (w : Str) (x1 : Sl), eLc (iR1 (aCons (eVar 0) (aNil))) [2] un1 [2] (eTup (aCons (eC (.str w)) (aCons (eVar 2) (aNil)))) [.sh (.int (n : Int)), x1, .dead] = .ok (.ow (((List.range n).map fun (k : Nat) => Da.int (k : Int)).map fun d => .tup [.str w, d])) := by
    intro w x1
    refine eLc_ok _ (by simp only [iR1_e, rN_int, rangeN_nat (show n ≤ 1000000 by omega), sSeq_e, then_nx, then_rt, then_ex, fin_ok, fin_ex, sSet_e, sOwn_e, sRet_e, sExpr_e, sRetVar_e, retN_sh, retN_ow, retN_ow2, sIf_e, selS_t, selS_f, selE_t, selE_f, stf_f, stf_t, bind_ok, bind_ex, dat_sh, dat_ow, dat_ow2, dat_ex, ofO_some, eVar_e, eOp_e, eUn_e, eIf_e, fB_e, dB_bl, fAnd_e, fOr_e, andT_t, andT_f, andT_x, orT_t, orT_f, orT_x, fNot_e, eAnd_e, eOr_e, andE_t, andE_f, orE_t, orE_f, eNot_e, dN_bl, eCh_e, chN_t, chN_f, eCh3_e, chN2_t, chN2_f, aCons_e, aNil_e, eLst_e, eTup_e, eCall_e, eFn_e, eC_e, sTgt_e, tgtN_some, sPar_e, parN_e, sRaise_e, sNil_e, eTab_e, tabN_e, eIndexT_e, idxN_e, endS_rt, endS_nx, endS_ex, view_sh, view_ow, view_ow2, shs_cons, shs_nil, shO_sh, shO_dead, shO_ow, shO_ow2, setR_c, setR_n, un1_e, unT_e, oNone_e, oSome_e, dI_int, fDef, List.append_nil, List.nil_append, List.cons_append, List.replicate_succ, List.replicate_zero, List.length_cons, List.length_nil, List.set_cons_zero, List.set_cons_succ, List.getElem?_cons_zero, List.getElem?_cons_succ, Nat.sub_zero, Nat.reduceSub, Nat.reduceAdd, Nat.reduceLeDiff, if_true, if_false, ite_true, ite_false, Bool.false_eq_true, decide_true, decide_false, Bool.not_true, Bool.not_false, kSub_int, kAdd_int, kLt_int, kLe_int, kGt_int, kGe_int, kEq_int, kNe_int, kMod_int, kEq_pair, kNe_pair, Bool.and_true, Bool.and_false, Bool.true_and, Bool.false_and]) (by simp; omega) fun d hd => elD_un1 ?_
    simp only [wipeR, sSeq_e, then_nx, then_rt, then_ex, fin_ok, fin_ex, sSet_e, sOwn_e, sRet_e, sExpr_e, sRetVar_e, retN_sh, retN_ow, retN_ow2, sIf_e, selS_t, selS_f, selE_t, selE_f, stf_f, stf_t, bind_ok, bind_ex, dat_sh, dat_ow, dat_ow2, dat_ex, ofO_some, eVar_e, eOp_e, eUn_e, eIf_e, fB_e, dB_bl, fAnd_e, fOr_e, andT_t, andT_f, andT_x, orT_t, orT_f, orT_x, fNot_e, eAnd_e, eOr_e, andE_t, andE_f, orE_t, orE_f, eNot_e, dN_bl, eCh_e, chN_t, chN_f, eCh3_e, chN2_t, chN2_f, aCons_e, aNil_e, eLst_e, eTup_e, eCall_e, eFn_e, eC_e, sTgt_e, tgtN_some, sPar_e, parN_e, sRaise_e, sNil_e, eTab_e, tabN_e, eIndexT_e, idxN_e, endS_rt, endS_nx, endS_ex, view_sh, view_ow, view_ow2, shs_cons, shs_nil, shO_sh, shO_dead, shO_ow, shO_ow2, setR_c, setR_n, un1_e, unT_e, oNone_e, oSome_e, dI_int, fDef, List.map_cons, List.map_nil, List.append_nil, List.nil_append, List.cons_append, List.replicate_succ, List.replicate_zero, List.length_cons, List.length_nil, List.set_cons_zero, List.set_cons_succ, List.getElem?_cons_zero, List.getElem?_cons_succ, Nat.sub_zero, Nat.reduceSub, Nat.reduceAdd, Nat.reduceLeDiff, if_true, if_false, ite_true, ite_false, Bool.false_eq_true, decide_true, decide_false, Bool.not_true, Bool.not_false, kSub_int, kAdd_int, kLt_int, kLe_int, kGt_int, kGe_int, kEq_int, kNe_int, kMod_int, kEq_pair, kNe_pair, Bool.and_true, Bool.and_false, Bool.true_and, Bool.false_and]
  have l2 : ((((List.range n).map fun (k : Nat) => Da.int (k : Int)).map fun d => Da.tup [.str "row", d]) ++ (((List.range n).map fun (k : Nat) => Da.int (k : Int)).map fun d => Da.tup [.str "column", d])) ++ [.tup [.str "down", .int 0], .tup [.str "up", .int 0]] = (lns n).map lnD := by
    unfold lns
    rw [List.map_append, List.map_append, List.map_map, List.map_map, List.map_map, List.map_map]
    rfl
  rw [← l2]
  simp (disch := (simp; omega)) only [f_lines, g_lines, fDef, endS_rt, List.map_cons, List.map_nil, List.length_cons, List.length_nil, Nat.reduceAdd, Nat.reduceSub, List.replicate_succ, List.replicate_zero, List.cons_append, List.nil_append, sSeq_e, sSet_e, sRet_e, stf_f, shs_cons, shs_nil, shO_sh, shO_dead, eOp_e, l1, dat_ow, dat_sh, bind_ok, kAdd_lst, ofO_some, fin_ok, then_nx, List.set_cons_zero, List.set_cons_succ, eVar_e, List.getElem?_cons_zero, List.getElem?_cons_succ, view_sh, eLst_e, eTup_e, aCons_e, aNil_e, eC_e, Nat.reduceLeDiff, if_true]
theorem psum_map {xss : List (List Int)} {n : Nat} {l : Ln} : ∀ k, psum xss n l k = ((List.range k).map (lterm xss n l)).sum
  | 0 => rfl
  | k + 1 => by
    rw [psum, psum_map k, List.range_succ, List.map_append, List.sum_append]
    simp
theorem ev_sum_along {xss : List (List Int)} {n : Nat} (h : Sq xss n) (h0 : 0 < n) (h1 : n ≤ 10000) {l : Ln} (hl : l ∈ lns n) : f_sum_along [dM xss, lnD l] = .ok (.sh (.int (lsum xss n l))) := by
  have hs : lsum xss n l = ((List.range n).map (lterm xss n l)).sum := psum_map n
  have hx := h.tb
  generalize hf : ent xss = f at hx
  subst hx
  have rg := rangeN_nat (show n ≤ 1000000 by omega)
  have last1 : (n : Int) - 1 + 1 = n := by omega
  rw [hs]
  cases l with
  | row k =>
    have hk := row_mem hl
    have e : (List.range n).map (lterm (tb n n f) n (.row k)) = (List.range n).map fun c => f k c := List.map_congr_left fun c hc => tb_ent hk (List.mem_range.mp hc)
    rw [e]
    have q := kIx_dM (tb_row (f := f) (m := n) hk)
    simp only [f_sum_along, g_sum_along, lnD, sSeq_e, then_nx, then_rt, then_ex, fin_ok, fin_ex, sSet_e, sOwn_e, sRet_e, sExpr_e, sRetVar_e, retN_sh, retN_ow, retN_ow2, sIf_e, selS_t, selS_f, selE_t, selE_f, stf_f, stf_t, bind_ok, bind_ex, dat_sh, dat_ow, dat_ow2, dat_ex, ofO_some, eVar_e, eOp_e, eUn_e, eIf_e, fB_e, dB_bl, fAnd_e, fOr_e, andT_t, andT_f, andT_x, orT_t, orT_f, orT_x, fNot_e, eAnd_e, eOr_e, andE_t, andE_f, orE_t, orE_f, eNot_e, dN_bl, eCh_e, chN_t, chN_f, eCh3_e, chN2_t, chN2_f, aCons_e, aNil_e, eLst_e, eTup_e, eCall_e, eFn_e, eC_e, sTgt_e, tgtN_some, sPar_e, parN_e, sRaise_e, sNil_e, eTab_e, tabN_e, eIndexT_e, idxN_e, endS_rt, endS_nx, endS_ex, view_sh, view_ow, view_ow2, shs_cons, shs_nil, shO_sh, shO_dead, shO_ow, shO_ow2, setR_c, setR_n, un1_e, unT_e, oNone_e, oSome_e, dI_int, fDef, List.append_nil, List.nil_append, List.cons_append, List.replicate_succ, List.replicate_zero, List.length_cons, List.length_nil, List.set_cons_zero, List.set_cons_succ, List.getElem?_cons_zero, List.getElem?_cons_succ, Nat.sub_zero, Nat.reduceSub, Nat.reduceAdd, Nat.reduceLeDiff, if_true, if_false, ite_true, ite_false, Bool.false_eq_true, decide_true, decide_false, Bool.not_true, Bool.not_false, kSub_int, kAdd_int, kLt_int, kLe_int, kGt_int, kGe_int, kEq_int, kNe_int, kMod_int, kEq_pair, kNe_pair, Bool.and_true, Bool.and_false, Bool.true_and, Bool.false_and, List.map_cons, List.map_nil, kLen_dM, tb_len, s_rr, q, kSum_ints]
  | col k =>
    have hk := col_mem hl
    have e : (List.range n).map (lterm (tb n n f) n (.col k)) = (List.range n).map fun c => f c k := List.map_congr_left fun c hc => tb_ent (List.mem_range.mp hc) hk
    rw [e]
    have hlc : eLc (iL asL (eVar 0)) [6] un1 [6] (eOp kIx (eVar 6) (eVar 3)) [.sh (dM (tb n n f)), .sh (.tup [.str "column", .int (k : Int)]), .sh (.str "column"), .sh (.int (k : Int)), .sh (.int ((n : Int) - 1)), .dead, .dead] = .ok (.ow (((List.range n).map fun c => f c k).map .int)) := by
      have := eLc_ok (fI := iL asL (eVar 0)) (is := [6]) (un := un1) (vs := [6]) (fe := eOp kIx (eVar 6) (eVar 3)) (ρ := [.sh (dM (tb n n f)), .sh (.tup [.str "column", .int (k : Int)]), .sh (.str "column"), .sh (.int (k : Int)), .sh (.int ((n : Int) - 1)), .dead, .dead]) (items := (List.range n).map fun r => rowD n (f r)) (fun d => match kIx d (.int (k : Int)) with | some (.sh y) => y | _ => .non)
        (by simp only [iL_e, sSeq_e, then_nx, then_rt, then_ex, fin_ok, fin_ex, sSet_e, sOwn_e, sRet_e, sExpr_e, sRetVar_e, retN_sh, retN_ow, retN_ow2, sIf_e, selS_t, selS_f, selE_t, selE_f, stf_f, stf_t, bind_ok, bind_ex, dat_sh, dat_ow, dat_ow2, dat_ex, ofO_some, eVar_e, eOp_e, eUn_e, eIf_e, fB_e, dB_bl, fAnd_e, fOr_e, andT_t, andT_f, andT_x, orT_t, orT_f, orT_x, fNot_e, eAnd_e, eOr_e, andE_t, andE_f, orE_t, orE_f, eNot_e, dN_bl, eCh_e, chN_t, chN_f, eCh3_e, chN2_t, chN2_f, aCons_e, aNil_e, eLst_e, eTup_e, eCall_e, eFn_e, eC_e, sTgt_e, tgtN_some, sPar_e, parN_e, sRaise_e, sNil_e, eTab_e, tabN_e, eIndexT_e, idxN_e, endS_rt, endS_nx, endS_ex, view_sh, view_ow, view_ow2, shs_cons, shs_nil, shO_sh, shO_dead, shO_ow, shO_ow2, setR_c, setR_n, un1_e, unT_e, oNone_e, oSome_e, dI_int, fDef, List.append_nil, List.nil_append, List.cons_append, List.replicate_succ, List.replicate_zero, List.length_cons, List.length_nil, List.set_cons_zero, List.set_cons_succ, List.getElem?_cons_zero, List.getElem?_cons_succ, Nat.sub_zero, Nat.reduceSub, Nat.reduceAdd, Nat.reduceLeDiff, if_true, if_false, ite_true, ite_false, Bool.false_eq_true, decide_true, decide_false, Bool.not_true, Bool.not_false, kSub_int, kAdd_int, kLt_int, kLe_int, kGt_int, kGe_int, kEq_int, kNe_int, kMod_int, kEq_pair, kNe_pair, Bool.and_true, Bool.and_false, Bool.true_and, Bool.false_and, asL_dMtb]) (by simp; omega) (fun d hd => elD_un1 (by
          obtain ⟨r, hr, rfl⟩ := List.mem_map.mp hd
          simp only [wipeR, sSeq_e, then_nx, then_rt, then_ex, fin_ok, fin_ex, sSet_e, sOwn_e, sRet_e, sExpr_e, sRetVar_e, retN_sh, retN_ow, retN_ow2, sIf_e, selS_t, selS_f, selE_t, selE_f, stf_f, stf_t, bind_ok, bind_ex, dat_sh, dat_ow, dat_ow2, dat_ex, ofO_some, eVar_e, eOp_e, eUn_e, eIf_e, fB_e, dB_bl, fAnd_e, fOr_e, andT_t, andT_f, andT_x, orT_t, orT_f, orT_x, fNot_e, eAnd_e, eOr_e, andE_t, andE_f, orE_t, orE_f, eNot_e, dN_bl, eCh_e, chN_t, chN_f, eCh3_e, chN2_t, chN2_f, aCons_e, aNil_e, eLst_e, eTup_e, eCall_e, eFn_e, eC_e, sTgt_e, tgtN_some, sPar_e, parN_e, sRaise_e, sNil_e, eTab_e, tabN_e, eIndexT_e, idxN_e, endS_rt, endS_nx, endS_ex, view_sh, view_ow, view_ow2, shs_cons, shs_nil, shO_sh, shO_dead, shO_ow, shO_ow2, setR_c, setR_n, un1_e, unT_e, oNone_e, oSome_e, dI_int, fDef, List.append_nil, List.nil_append, List.cons_append, List.replicate_succ, List.replicate_zero, List.length_cons, List.length_nil, List.set_cons_zero, List.set_cons_succ, List.getElem?_cons_zero, List.getElem?_cons_succ, Nat.sub_zero, Nat.reduceSub, Nat.reduceAdd, Nat.reduceLeDiff, if_true, if_false, ite_true, ite_false, Bool.false_eq_true, decide_true, decide_false, Bool.not_true, Bool.not_false, kSub_int, kAdd_int, kLt_int, kLe_int, kGt_int, kGe_int, kEq_int, kNe_int, kMod_int, kEq_pair, kNe_pair, Bool.and_true, Bool.and_false, Bool.true_and, Bool.false_and, kIx_rowD hk]))
      rw [this, List.map_map, List.map_map]
      congr 2
      refine List.map_congr_left fun r _ => ?_
      show (match kIx (rowD n (f r)) (.int (k : Int)) with | some (.sh y) => y | _ => .non) = Da.int (f r k)
      rw [kIx_rowD hk]
    simp only [f_sum_along, g_sum_along, lnD, sSeq_e, then_nx, then_rt, then_ex, fin_ok, fin_ex, sSet_e, sOwn_e, sRet_e, sExpr_e, sRetVar_e, retN_sh, retN_ow, retN_ow2, sIf_e, selS_t, selS_f, selE_t, selE_f, stf_f, stf_t, bind_ok, bind_ex, dat_sh, dat_ow, dat_ow2, dat_ex, ofO_some, eVar_e, eOp_e, eUn_e, eIf_e, fB_e, dB_bl, fAnd_e, fOr_e, andT_t, andT_f, andT_x, orT_t, orT_f, orT_x, fNot_e, eAnd_e, eOr_e, andE_t, andE_f, orE_t, orE_f, eNot_e, dN_bl, eCh_e, chN_t, chN_f, eCh3_e, chN2_t, chN2_f, aCons_e, aNil_e, eLst_e, eTup_e, eCall_e, eFn_e, eC_e, sTgt_e, tgtN_some, sPar_e, parN_e, sRaise_e, sNil_e, eTab_e, tabN_e, eIndexT_e, idxN_e, endS_rt, endS_nx, endS_ex, view_sh, view_ow, view_ow2, shs_cons, shs_nil, shO_sh, shO_dead, shO_ow, shO_ow2, setR_c, setR_n, un1_e, unT_e, oNone_e, oSome_e, dI_int, fDef, List.append_nil, List.nil_append, List.cons_append, List.replicate_succ, List.replicate_zero, List.length_cons, List.length_nil, List.set_cons_zero, List.set_cons_succ, List.getElem?_cons_zero, List.getElem?_cons_succ, Nat.sub_zero, Nat.reduceSub, Nat.reduceAdd, Nat.reduceLeDiff, if_true, if_false, ite_true, ite_false, Bool.false_eq_true, decide_true, decide_false, Bool.not_true, Bool.not_false, kSub_int, kAdd_int, kLt_int, kLe_int, kGt_int, kGe_int, kEq_int, kNe_int, kMod_int, kEq_pair, kNe_pair, Bool.and_true, Bool.and_false, Bool.true_and, Bool.false_and, List.map_cons, List.map_nil, kLen_dM, tb_len, s_cr, s_cc, hlc, kSum_ints]
  | down =>
    have e : (List.range n).map (lterm (tb n n f) n .down) = (List.range n).map fun c => f c c := List.map_congr_left fun c hc => tb_ent (List.mem_range.mp hc) (List.mem_range.mp hc)
    rw [e]
    have hlc : eLc (iR1 (aCons (eOp kAdd (eVar 4) (eC (.int 1))) (aNil))) [5] un1 [5] (eOp kIx (eOp kIx (eVar 0) (eVar 5)) (eVar 5)) [.sh (dM (tb n n f)), .sh (.tup [.str "down", .int 0]), .sh (.str "down"), .sh (.int 0), .sh (.int ((n : Int) - 1)), .dead, .dead] = .ok (.ow (((List.range n).map fun c => f c c).map .int)) := by
      have := eLc_ok (fI := iR1 (aCons (eOp kAdd (eVar 4) (eC (.int 1))) (aNil))) (is := [5]) (un := un1) (vs := [5]) (fe := eOp kIx (eOp kIx (eVar 0) (eVar 5)) (eVar 5)) (ρ := [.sh (dM (tb n n f)), .sh (.tup [.str "down", .int 0]), .sh (.str "down"), .sh (.int 0), .sh (.int ((n : Int) - 1)), .dead, .dead]) (items := (List.range n).map fun (k : Nat) => Da.int (k : Int)) (fun d => match d with | .int s => .int (f s.toNat s.toNat) | _ => .non)
        (by simp only [iR1_e, sSeq_e, then_nx, then_rt, then_ex, fin_ok, fin_ex, sSet_e, sOwn_e, sRet_e, sExpr_e, sRetVar_e, retN_sh, retN_ow, retN_ow2, sIf_e, selS_t, selS_f, selE_t, selE_f, stf_f, stf_t, bind_ok, bind_ex, dat_sh, dat_ow, dat_ow2, dat_ex, ofO_some, eVar_e, eOp_e, eUn_e, eIf_e, fB_e, dB_bl, fAnd_e, fOr_e, andT_t, andT_f, andT_x, orT_t, orT_f, orT_x, fNot_e, eAnd_e, eOr_e, andE_t, andE_f, orE_t, orE_f, eNot_e, dN_bl, eCh_e, chN_t, chN_f, eCh3_e, chN2_t, chN2_f, aCons_e, aNil_e, eLst_e, eTup_e, eCall_e, eFn_e, eC_e, sTgt_e, tgtN_some, sPar_e, parN_e, sRaise_e, sNil_e, eTab_e, tabN_e, eIndexT_e, idxN_e, endS_rt, endS_nx, endS_ex, view_sh, view_ow, view_ow2, shs_cons, shs_nil, shO_sh, shO_dead, shO_ow, shO_ow2, setR_c, setR_n, un1_e, unT_e, oNone_e, oSome_e, dI_int, fDef, List.append_nil, List.nil_append, List.cons_append, List.replicate_succ, List.replicate_zero, List.length_cons, List.length_nil, List.set_cons_zero, List.set_cons_succ, List.getElem?_cons_zero, List.getElem?_cons_succ, Nat.sub_zero, Nat.reduceSub, Nat.reduceAdd, Nat.reduceLeDiff, if_true, if_false, ite_true, ite_false, Bool.false_eq_true, decide_true, decide_false, Bool.not_true, Bool.not_false, kSub_int, kAdd_int, kLt_int, kLe_int, kGt_int, kGe_int, kEq_int, kNe_int, kMod_int, kEq_pair, kNe_pair, Bool.and_true, Bool.and_false, Bool.true_and, Bool.false_and, last1, rN_int, rg]) (by simp; omega) (fun d hd => elD_un1 (by
          obtain ⟨r, hr, rfl⟩ := List.mem_map.mp hd
          have hr := List.mem_range.mp hr
          have q := kIx_dM (tb_row (f := f) (m := n) hr)
          rw [rowD_eq] at q
          simp only [wipeR, sSeq_e, then_nx, then_rt, then_ex, fin_ok, fin_ex, sSet_e, sOwn_e, sRet_e, sExpr_e, sRetVar_e, retN_sh, retN_ow, retN_ow2, sIf_e, selS_t, selS_f, selE_t, selE_f, stf_f, stf_t, bind_ok, bind_ex, dat_sh, dat_ow, dat_ow2, dat_ex, ofO_some, eVar_e, eOp_e, eUn_e, eIf_e, fB_e, dB_bl, fAnd_e, fOr_e, andT_t, andT_f, andT_x, orT_t, orT_f, orT_x, fNot_e, eAnd_e, eOr_e, andE_t, andE_f, orE_t, orE_f, eNot_e, dN_bl, eCh_e, chN_t, chN_f, eCh3_e, chN2_t, chN2_f, aCons_e, aNil_e, eLst_e, eTup_e, eCall_e, eFn_e, eC_e, sTgt_e, tgtN_some, sPar_e, parN_e, sRaise_e, sNil_e, eTab_e, tabN_e, eIndexT_e, idxN_e, endS_rt, endS_nx, endS_ex, view_sh, view_ow, view_ow2, shs_cons, shs_nil, shO_sh, shO_dead, shO_ow, shO_ow2, setR_c, setR_n, un1_e, unT_e, oNone_e, oSome_e, dI_int, fDef, List.append_nil, List.nil_append, List.cons_append, List.replicate_succ, List.replicate_zero, List.length_cons, List.length_nil, List.set_cons_zero, List.set_cons_succ, List.getElem?_cons_zero, List.getElem?_cons_succ, Nat.sub_zero, Nat.reduceSub, Nat.reduceAdd, Nat.reduceLeDiff, if_true, if_false, ite_true, ite_false, Bool.false_eq_true, decide_true, decide_false, Bool.not_true, Bool.not_false, kSub_int, kAdd_int, kLt_int, kLe_int, kGt_int, kGe_int, kEq_int, kNe_int, kMod_int, kEq_pair, kNe_pair, Bool.and_true, Bool.and_false, Bool.true_and, Bool.false_and, q, kIx_rowD hr]
          rfl))
      rw [this, List.map_map, List.map_map]
      rfl
    simp only [f_sum_along, g_sum_along, lnD, sSeq_e, then_nx, then_rt, then_ex, fin_ok, fin_ex, sSet_e, sOwn_e, sRet_e, sExpr_e, sRetVar_e, retN_sh, retN_ow, retN_ow2, sIf_e, selS_t, selS_f, selE_t, selE_f, stf_f, stf_t, bind_ok, bind_ex, dat_sh, dat_ow, dat_ow2, dat_ex, ofO_some, eVar_e, eOp_e, eUn_e, eIf_e, fB_e, dB_bl, fAnd_e, fOr_e, andT_t, andT_f, andT_x, orT_t, orT_f, orT_x, fNot_e, eAnd_e, eOr_e, andE_t, andE_f, orE_t, orE_f, eNot_e, dN_bl, eCh_e, chN_t, chN_f, eCh3_e, chN2_t, chN2_f, aCons_e, aNil_e, eLst_e, eTup_e, eCall_e, eFn_e, eC_e, sTgt_e, tgtN_some, sPar_e, parN_e, sRaise_e, sNil_e, eTab_e, tabN_e, eIndexT_e, idxN_e, endS_rt, endS_nx, endS_ex, view_sh, view_ow, view_ow2, shs_cons, shs_nil, shO_sh, shO_dead, shO_ow, shO_ow2, setR_c, setR_n, un1_e, unT_e, oNone_e, oSome_e, dI_int, fDef, List.append_nil, List.nil_append, List.cons_append, List.replicate_succ, List.replicate_zero, List.length_cons, List.length_nil, List.set_cons_zero, List.set_cons_succ, List.getElem?_cons_zero, List.getElem?_cons_succ, Nat.sub_zero, Nat.reduceSub, Nat.reduceAdd, Nat.reduceLeDiff, if_true, if_false, ite_true, ite_false, Bool.false_eq_true, decide_true, decide_false, Bool.not_true, Bool.not_false, kSub_int, kAdd_int, kLt_int, kLe_int, kGt_int, kGe_int, kEq_int, kNe_int, kMod_int, kEq_pair, kNe_pair, Bool.and_true, Bool.and_false, Bool.true_and, Bool.false_and, List.map_cons, List.map_nil, kLen_dM, tb_len, s_dr, s_dc, s_dd, hlc, kSum_ints]
  | up =>
    have e : (List.range n).map (lterm (tb n n f) n .up) = (List.range n).map fun c => f (n - 1 - c) c := List.map_congr_left fun c hc => tb_ent (by have := List.mem_range.mp hc; omega) (List.mem_range.mp hc)
    rw [e]
    have hlc : eLc (iR1 (aCons (eOp kAdd (eVar 4) (eC (.int 1))) (aNil))) [5] un1 [5] (eOp kIx (eOp kIx (eVar 0) (eOp kSub (eVar 4) (eVar 5))) (eVar 5)) [.sh (dM (tb n n f)), .sh (.tup [.str "up", .int 0]), .sh (.str "up"), .sh (.int 0), .sh (.int ((n : Int) - 1)), .dead, .dead] = .ok (.ow (((List.range n).map fun c => f (n - 1 - c) c).map .int)) := by
      have := eLc_ok (fI := iR1 (aCons (eOp kAdd (eVar 4) (eC (.int 1))) (aNil))) (is := [5]) (un := un1) (vs := [5]) (fe := eOp kIx (eOp kIx (eVar 0) (eOp kSub (eVar 4) (eVar 5))) (eVar 5)) (ρ := [.sh (dM (tb n n f)), .sh (.tup [.str "up", .int 0]), .sh (.str "up"), .sh (.int 0), .sh (.int ((n : Int) - 1)), .dead, .dead]) (items := (List.range n).map fun (k : Nat) => Da.int (k : Int)) (fun d => match d with | .int s => .int (f (n - 1 - s.toNat) s.toNat) | _ => .non)
        (by simp only [iR1_e, sSeq_e, then_nx, then_rt, then_ex, fin_ok, fin_ex, sSet_e, sOwn_e, sRet_e, sExpr_e, sRetVar_e, retN_sh, retN_ow, retN_ow2, sIf_e, selS_t, selS_f, selE_t, selE_f, stf_f, stf_t, bind_ok, bind_ex, dat_sh, dat_ow, dat_ow2, dat_ex, ofO_some, eVar_e, eOp_e, eUn_e, eIf_e, fB_e, dB_bl, fAnd_e, fOr_e, andT_t, andT_f, andT_x, orT_t, orT_f, orT_x, fNot_e, eAnd_e, eOr_e, andE_t, andE_f, orE_t, orE_f, eNot_e, dN_bl, eCh_e, chN_t, chN_f, eCh3_e, chN2_t, chN2_f, aCons_e, aNil_e, eLst_e, eTup_e, eCall_e, eFn_e, eC_e, sTgt_e, tgtN_some, sPar_e, parN_e, sRaise_e, sNil_e, eTab_e, tabN_e, eIndexT_e, idxN_e, endS_rt, endS_nx, endS_ex, view_sh, view_ow, view_ow2, shs_cons, shs_nil, shO_sh, shO_dead, shO_ow, shO_ow2, setR_c, setR_n, un1_e, unT_e, oNone_e, oSome_e, dI_int, fDef, List.append_nil, List.nil_append, List.cons_append, List.replicate_succ, List.replicate_zero, List.length_cons, List.length_nil, List.set_cons_zero, List.set_cons_succ, List.getElem?_cons_zero, List.getElem?_cons_succ, Nat.sub_zero, Nat.reduceSub, Nat.reduceAdd, Nat.reduceLeDiff, if_true, if_false, ite_true, ite_false, Bool.false_eq_true, decide_true, decide_false, Bool.not_true, Bool.not_false, kSub_int, kAdd_int, kLt_int, kLe_int, kGt_int, kGe_int, kEq_int, kNe_int, kMod_int, kEq_pair, kNe_pair, Bool.and_true, Bool.and_false, Bool.true_and, Bool.false_and, last1, rN_int, rg]) (by simp; omega) (fun d hd => elD_un1 (by
          obtain ⟨r, hr, rfl⟩ := List.mem_map.mp hd
          have hr := List.mem_range.mp hr
          have q := kIx_dM (tb_row (f := f) (m := n) (show n - 1 - r < n by omega))
          rw [rowD_eq] at q
          have ei : (n : Int) - 1 - (r : Int) = ((n - 1 - r : Nat) : Int) := by omega
          simp only [wipeR, sSeq_e, then_nx, then_rt, then_ex, fin_ok, fin_ex, sSet_e, sOwn_e, sRet_e, sExpr_e, sRetVar_e, retN_sh, retN_ow, retN_ow2, sIf_e, selS_t, selS_f, selE_t, selE_f, stf_f, stf_t, bind_ok, bind_ex, dat_sh, dat_ow, dat_ow2, dat_ex, ofO_some, eVar_e, eOp_e, eUn_e, eIf_e, fB_e, dB_bl, fAnd_e, fOr_e, andT_t, andT_f, andT_x, orT_t, orT_f, orT_x, fNot_e, eAnd_e, eOr_e, andE_t, andE_f, orE_t, orE_f, eNot_e, dN_bl, eCh_e, chN_t, chN_f, eCh3_e, chN2_t, chN2_f, aCons_e, aNil_e, eLst_e, eTup_e, eCall_e, eFn_e, eC_e, sTgt_e, tgtN_some, sPar_e, parN_e, sRaise_e, sNil_e, eTab_e, tabN_e, eIndexT_e, idxN_e, endS_rt, endS_nx, endS_ex, view_sh, view_ow, view_ow2, shs_cons, shs_nil, shO_sh, shO_dead, shO_ow, shO_ow2, setR_c, setR_n, un1_e, unT_e, oNone_e, oSome_e, dI_int, fDef, List.append_nil, List.nil_append, List.cons_append, List.replicate_succ, List.replicate_zero, List.length_cons, List.length_nil, List.set_cons_zero, List.set_cons_succ, List.getElem?_cons_zero, List.getElem?_cons_succ, Nat.sub_zero, Nat.reduceSub, Nat.reduceAdd, Nat.reduceLeDiff, if_true, if_false, ite_true, ite_false, Bool.false_eq_true, decide_true, decide_false, Bool.not_true, Bool.not_false, kSub_int, kAdd_int, kLt_int, kLe_int, kGt_int, kGe_int, kEq_int, kNe_int, kMod_int, kEq_pair, kNe_pair, Bool.and_true, Bool.and_false, Bool.true_and, Bool.false_and, ei, q, kIx_rowD hr]
          rfl))
      rw [this, List.map_map, List.map_map]
      rfl
    simp only [f_sum_along, g_sum_along, lnD, sSeq_e, then_nx, then_rt, then_ex, fin_ok, fin_ex, sSet_e, sOwn_e, sRet_e, sExpr_e, sRetVar_e, retN_sh, retN_ow, retN_ow2, sIf_e, selS_t, selS_f, selE_t, selE_f, stf_f, stf_t, bind_ok, bind_ex, dat_sh, dat_ow, dat_ow2, dat_ex, ofO_some, eVar_e, eOp_e, eUn_e, eIf_e, fB_e, dB_bl, fAnd_e, fOr_e, andT_t, andT_f, andT_x, orT_t, orT_f, orT_x, fNot_e, eAnd_e, eOr_e, andE_t, andE_f, orE_t, orE_f, eNot_e, dN_bl, eCh_e, chN_t, chN_f, eCh3_e, chN2_t, chN2_f, aCons_e, aNil_e, eLst_e, eTup_e, eCall_e, eFn_e, eC_e, sTgt_e, tgtN_some, sPar_e, parN_e, sRaise_e, sNil_e, eTab_e, tabN_e, eIndexT_e, idxN_e, endS_rt, endS_nx, endS_ex, view_sh, view_ow, view_ow2, shs_cons, shs_nil, shO_sh, shO_dead, shO_ow, shO_ow2, setR_c, setR_n, un1_e, unT_e, oNone_e, oSome_e, dI_int, fDef, List.append_nil, List.nil_append, List.cons_append, List.replicate_succ, List.replicate_zero, List.length_cons, List.length_nil, List.set_cons_zero, List.set_cons_succ, List.getElem?_cons_zero, List.getElem?_cons_succ, Nat.sub_zero, Nat.reduceSub, Nat.reduceAdd, Nat.reduceLeDiff, if_true, if_false, ite_true, ite_false, Bool.false_eq_true, decide_true, decide_false, Bool.not_true, Bool.not_false, kSub_int, kAdd_int, kLt_int, kLe_int, kGt_int, kGe_int, kEq_int, kNe_int, kMod_int, kEq_pair, kNe_pair, Bool.and_true, Bool.and_false, Bool.true_and, Bool.false_and, List.map_cons, List.map_nil, kLen_dM, tb_len, s_ur, s_uc, s_ud, hlc, kSum_ints]
theorem row0_mem {n : Nat} (h0 : 0 < n) : Ln.row 0 ∈ lns n := by
  unfold lns
  exact List.mem_append_left _ (List.mem_append_left _ (List.mem_map.mpr ⟨0, List.mem_range.mpr h0, rfl⟩))
/-- what is told -/
theorem ev_told {xss : List (List Int)} {n : Nat} (h : Sq xss n) (h0 : 0 < n) (h1 : n ≤ 10000) :
    ((∀ l ∈ lns n, lsum xss n l = lsum xss n (.row 0)) ∧ f_told [dM xss] = .ok (.sh (.even (.int (lsum xss n (.row 0)))))) ∨ ∃ l ∈ lns n, lsum xss n l ≠ lsum xss n (.row 0) ∧ f_told [dM xss] = .ok (.sh (.unl (lnD (.row 0)) (lnD l))) := by
  have ha := ev_asked_square h h0 h1
  have hr0 := ev_sum_along h h0 h1 (row0_mem h0)
  have r0 : lnD (.row 0) = .tup [.str "row", .int 0] := rfl
  rw [r0] at hr0
  generalize hT : lsum xss n (.row 0) = T at *
  have loop : ∀ (ls : List Ln), (∀ l ∈ ls, l ∈ lns n) → ∀ x3 : Sl, ((∀ l ∈ ls, lsum xss n l = T) ∧ ∃ y3, loopF [3] un1 (sIf (fB (eOp kNe (eFn f_sum_along (aCons (eVar 0) (aCons (eVar 3) (aNil)))) (eVar 2)))
    (sRet false (eUnl (aCons (eVar 1) (aCons (eVar 3) (aNil))))) (sNil)) (ls.map lnD) [.sh (dM xss), .sh (.tup [.str "row", .int 0]), .sh (.int T), x3] = .nx [.sh (dM xss), .sh (.tup [.str "row", .int 0]), .sh (.int T), y3]) ∨
      ∃ l ∈ ls, lsum xss n l ≠ T ∧ loopF [3] un1 (sIf (fB (eOp kNe (eFn f_sum_along (aCons (eVar 0) (aCons (eVar 3) (aNil)))) (eVar 2)))
    (sRet false (eUnl (aCons (eVar 1) (aCons (eVar 3) (aNil))))) (sNil)) (ls.map lnD) [.sh (dM xss), .sh (.tup [.str "row", .int 0]), .sh (.int T), x3] = .rt (.sh (.unl (.tup [.str "row", .int 0]) (lnD l))) := by
    intro ls
    induction ls with
    | nil => intro _ x3; exact .inl ⟨fun l hl => (by cases hl), x3, rfl⟩
    | cons a ls ih =>
      intro hm x3
      have hs := ev_sum_along h h0 h1 (hm a List.mem_cons_self)
      by_cases e : lsum xss n a = T
      · have st : ∀ rest, loopF [3] un1 (sIf (fB (eOp kNe (eFn f_sum_along (aCons (eVar 0) (aCons (eVar 3) (aNil)))) (eVar 2)))
    (sRet false (eUnl (aCons (eVar 1) (aCons (eVar 3) (aNil))))) (sNil)) (lnD a :: rest) [.sh (dM xss), .sh (.tup [.str "row", .int 0]), .sh (.int T), x3] = loopF [3] un1 (sIf (fB (eOp kNe (eFn f_sum_along (aCons (eVar 0) (aCons (eVar 3) (aNil)))) (eVar 2)))
    (sRet false (eUnl (aCons (eVar 1) (aCons (eVar 3) (aNil))))) (sNil)) rest [.sh (dM xss), .sh (.tup [.str "row", .int 0]), .sh (.int T), .sh (lnD a)] := fun rest => by
          simp only [loop_un1, sSeq_e, then_nx, then_rt, then_ex, fin_ok, fin_ex, sSet_e, sOwn_e, sRet_e, sExpr_e, sRetVar_e, retN_sh, retN_ow, retN_ow2, sIf_e, selS_t, selS_f, selE_t, selE_f, stf_f, stf_t, bind_ok, bind_ex, dat_sh, dat_ow, dat_ow2, dat_ex, ofO_some, eVar_e, eOp_e, eUn_e, eIf_e, fB_e, dB_bl, fAnd_e, fOr_e, andT_t, andT_f, andT_x, orT_t, orT_f, orT_x, fNot_e, eAnd_e, eOr_e, andE_t, andE_f, orE_t, orE_f, eNot_e, dN_bl, eCh_e, chN_t, chN_f, eCh3_e, chN2_t, chN2_f, aCons_e, aNil_e, eLst_e, eTup_e, eCall_e, eFn_e, eC_e, sTgt_e, tgtN_some, sPar_e, parN_e, sRaise_e, sNil_e, eTab_e, tabN_e, eIndexT_e, idxN_e, endS_rt, endS_nx, endS_ex, view_sh, view_ow, view_ow2, shs_cons, shs_nil, shO_sh, shO_dead, shO_ow, shO_ow2, setR_c, setR_n, un1_e, unT_e, oNone_e, oSome_e, dI_int, fDef, List.append_nil, List.nil_append, List.cons_append, List.replicate_succ, List.replicate_zero, List.length_cons, List.length_nil, List.set_cons_zero, List.set_cons_succ, List.getElem?_cons_zero, List.getElem?_cons_succ, Nat.sub_zero, Nat.reduceSub, Nat.reduceAdd, Nat.reduceLeDiff, if_true, if_false, ite_true, ite_false, Bool.false_eq_true, decide_true, decide_false, Bool.not_true, Bool.not_false, kSub_int, kAdd_int, kLt_int, kLe_int, kGt_int, kGe_int, kEq_int, kNe_int, kMod_int, kEq_pair, kNe_pair, Bool.and_true, Bool.and_false, Bool.true_and, Bool.false_and, hs, e, beq_self_eq_true, loopN_nx]
        rcases ih (fun l hl => hm l (List.mem_cons_of_mem _ hl)) (.sh (lnD a)) with ⟨q1, y3, q2⟩ | ⟨l, q1, q2, q3⟩
        · refine .inl ⟨fun l hl => ?_, y3, by rw [List.map_cons, st]; exact q2⟩
          rcases List.mem_cons.mp hl with z | z
          · rw [z]; exact e
          · exact q1 l z
        · exact .inr ⟨l, List.mem_cons_of_mem _ q1, q2, by rw [List.map_cons, st]; exact q3⟩
      · refine .inr ⟨a, List.mem_cons_self, e, ?_⟩
        rw [List.map_cons]
        have u : eUnl (aCons (eVar 1) (aCons (eVar 3) (aNil))) [.sh (dM xss), .sh (.tup [.str "row", .int 0]), .sh (.int T), .sh (lnD a)] = .ok (.sh (.unl (.tup [.str "row", .int 0]) (lnD a))) := rfl
        simp only [loop_un1, sSeq_e, then_nx, then_rt, then_ex, fin_ok, fin_ex, sSet_e, sOwn_e, sRet_e, sExpr_e, sRetVar_e, retN_sh, retN_ow, retN_ow2, sIf_e, selS_t, selS_f, selE_t, selE_f, stf_f, stf_t, bind_ok, bind_ex, dat_sh, dat_ow, dat_ow2, dat_ex, ofO_some, eVar_e, eOp_e, eUn_e, eIf_e, fB_e, dB_bl, fAnd_e, fOr_e, andT_t, andT_f, andT_x, orT_t, orT_f, orT_x, fNot_e, eAnd_e, eOr_e, andE_t, andE_f, orE_t, orE_f, eNot_e, dN_bl, eCh_e, chN_t, chN_f, eCh3_e, chN2_t, chN2_f, aCons_e, aNil_e, eLst_e, eTup_e, eCall_e, eFn_e, eC_e, sTgt_e, tgtN_some, sPar_e, parN_e, sRaise_e, sNil_e, eTab_e, tabN_e, eIndexT_e, idxN_e, endS_rt, endS_nx, endS_ex, view_sh, view_ow, view_ow2, shs_cons, shs_nil, shO_sh, shO_dead, shO_ow, shO_ow2, setR_c, setR_n, un1_e, unT_e, oNone_e, oSome_e, dI_int, fDef, List.append_nil, List.nil_append, List.cons_append, List.replicate_succ, List.replicate_zero, List.length_cons, List.length_nil, List.set_cons_zero, List.set_cons_succ, List.getElem?_cons_zero, List.getElem?_cons_succ, Nat.sub_zero, Nat.reduceSub, Nat.reduceAdd, Nat.reduceLeDiff, if_true, if_false, ite_true, ite_false, Bool.false_eq_true, decide_true, decide_false, Bool.not_true, Bool.not_false, kSub_int, kAdd_int, kLt_int, kLe_int, kGt_int, kGe_int, kEq_int, kNe_int, kMod_int, kEq_pair, kNe_pair, Bool.and_true, Bool.and_false, Bool.true_and, Bool.false_and, hs, bne_i e, u, loopN_rt]
  have ev : ∀ x3 : Sl, eEven (aCons (eVar 2) (aNil)) [.sh (dM xss), .sh (.tup [.str "row", .int 0]), .sh (.int T), x3] = .ok (.sh (.even (.int T))) := fun _ => rfl
  rcases loop (lns n) (fun l hl => hl) .dead with ⟨q1, y3, q2⟩ | ⟨l, q1, q2, q3⟩
  · refine .inl ⟨q1, ?_⟩
    simp only [f_told, g_told, sSeq_e, then_nx, then_rt, then_ex, fin_ok, fin_ex, sSet_e, sOwn_e, sRet_e, sExpr_e, sRetVar_e, retN_sh, retN_ow, retN_ow2, sIf_e, selS_t, selS_f, selE_t, selE_f, stf_f, stf_t, bind_ok, bind_ex, dat_sh, dat_ow, dat_ow2, dat_ex, ofO_some, eVar_e, eOp_e, eUn_e, eIf_e, fB_e, dB_bl, fAnd_e, fOr_e, andT_t, andT_f, andT_x, orT_t, orT_f, orT_x, fNot_e, eAnd_e, eOr_e, andE_t, andE_f, orE_t, orE_f, eNot_e, dN_bl, eCh_e, chN_t, chN_f, eCh3_e, chN2_t, chN2_f, aCons_e, aNil_e, eLst_e, eTup_e, eCall_e, eFn_e, eC_e, sTgt_e, tgtN_some, sPar_e, parN_e, sRaise_e, sNil_e, eTab_e, tabN_e, eIndexT_e, idxN_e, endS_rt, endS_nx, endS_ex, view_sh, view_ow, view_ow2, shs_cons, shs_nil, shO_sh, shO_dead, shO_ow, shO_ow2, setR_c, setR_n, un1_e, unT_e, oNone_e, oSome_e, dI_int, fDef, List.append_nil, List.nil_append, List.cons_append, List.replicate_succ, List.replicate_zero, List.length_cons, List.length_nil, List.set_cons_zero, List.set_cons_succ, List.getElem?_cons_zero, List.getElem?_cons_succ, Nat.sub_zero, Nat.reduceSub, Nat.reduceAdd, Nat.reduceLeDiff, if_true, if_false, ite_true, ite_false, Bool.false_eq_true, decide_true, decide_false, Bool.not_true, Bool.not_false, kSub_int, kAdd_int, kLt_int, kLe_int, kGt_int, kGe_int, kEq_int, kNe_int, kMod_int, kEq_pair, kNe_pair, Bool.and_true, Bool.and_false, Bool.true_and, Bool.false_and, List.map_cons, List.map_nil, ha, hr0, sFor_e, iL_e, kLen_dM, h.1, ev_lines h1, asL_lst, q2, ev]
  · refine .inr ⟨l, q1, q2, ?_⟩
    simp only [f_told, g_told, sSeq_e, then_nx, then_rt, then_ex, fin_ok, fin_ex, sSet_e, sOwn_e, sRet_e, sExpr_e, sRetVar_e, retN_sh, retN_ow, retN_ow2, sIf_e, selS_t, selS_f, selE_t, selE_f, stf_f, stf_t, bind_ok, bind_ex, dat_sh, dat_ow, dat_ow2, dat_ex, ofO_some, eVar_e, eOp_e, eUn_e, eIf_e, fB_e, dB_bl, fAnd_e, fOr_e, andT_t, andT_f, andT_x, orT_t, orT_f, orT_x, fNot_e, eAnd_e, eOr_e, andE_t, andE_f, orE_t, orE_f, eNot_e, dN_bl, eCh_e, chN_t, chN_f, eCh3_e, chN2_t, chN2_f, aCons_e, aNil_e, eLst_e, eTup_e, eCall_e, eFn_e, eC_e, sTgt_e, tgtN_some, sPar_e, parN_e, sRaise_e, sNil_e, eTab_e, tabN_e, eIndexT_e, idxN_e, endS_rt, endS_nx, endS_ex, view_sh, view_ow, view_ow2, shs_cons, shs_nil, shO_sh, shO_dead, shO_ow, shO_ow2, setR_c, setR_n, un1_e, unT_e, oNone_e, oSome_e, dI_int, fDef, List.append_nil, List.nil_append, List.cons_append, List.replicate_succ, List.replicate_zero, List.length_cons, List.length_nil, List.set_cons_zero, List.set_cons_succ, List.getElem?_cons_zero, List.getElem?_cons_succ, Nat.sub_zero, Nat.reduceSub, Nat.reduceAdd, Nat.reduceLeDiff, if_true, if_false, ite_true, ite_false, Bool.false_eq_true, decide_true, decide_false, Bool.not_true, Bool.not_false, kSub_int, kAdd_int, kLt_int, kLe_int, kGt_int, kGe_int, kEq_int, kNe_int, kMod_int, kEq_pair, kNe_pair, Bool.and_true, Bool.and_false, Bool.true_and, Bool.false_and, List.map_cons, List.map_nil, ha, hr0, sFor_e, iL_e, kLen_dM, h.1, ev_lines h1, asL_lst, q3, r0]

section
variable {n : Nat} {f g : Nat → Nat → Int}
/-- a square mapped, row by row -/
theorem map_lc {vs i j : Nat} {ρ : Rho} {fe : Sem1} {h : Int → Int} (hn : n ≤ 10000) (h0 : dat (eVar vs ρ) = .ok (dM (tb n n f))) (hi : ∀ d : Da, dat (eVar i ((wipeR ρ [i]).set i (.sh d))) = .ok d)
    (hj : ∀ (d : Da) (z : Int), dat (fe ((wipeR ((wipeR ρ [i]).set i (.sh d)) [j]).set j (.sh (.int z)))) = .ok (.int (h z))) : eLc2 (iL asL (eVar vs)) [i] un1 [i] (eLc (iL asL (eVar i)) [j] un1 [j] fe) ρ = .ok (.ow2 (dD (tb n n fun r c => h (f r c)))) := by
  have inner : ∀ r : Nat, eLc (iL asL (eVar i)) [j] un1 [j] fe ((wipeR ρ [i]).set i (.sh (rowD n (f r)))) = .ok (.ow ((List.range n).map fun c => Da.int (h (f r c)))) := by
    intro r
    have := eLc_ok (fI := iL asL (eVar i)) (is := [j]) (un := un1) (vs := [j]) (fe := fe) (ρ := (wipeR ρ [i]).set i (.sh (rowD n (f r)))) (items := (List.range n).map fun c => Da.int (f r c)) (fun d => match d with | .int z => .int (h z) | _ => .non)
      (by rw [iL_e, hi, bind_ok, asL_rowD, ofO_some]) (by simp; omega) (fun d hd => elD_un1 (by
        obtain ⟨c, hc, rfl⟩ := List.mem_map.mp hd
        exact hj _ _))
    rw [this, List.map_map]
    rfl
  have := eLc2_ok (fI := iL asL (eVar vs)) (is := [i]) (un := un1) (vs := [i]) (fe := eLc (iL asL (eVar i)) [j] un1 [j] fe) (ρ := ρ) (items := (List.range n).map fun r => rowD n (f r)) (fun d => match asL d with | some xs => xs.map (fun e => match e with | .int z => .int (h z) | _ => .non) | none => [])
    (by rw [iL_e, h0, bind_ok, asL_dMtb, ofO_some]) (by simp; omega) (fun d hd => elO_un1 (by
      obtain ⟨r, hr, rfl⟩ := List.mem_map.mp hd
      rw [inner r, asL_rowD]
      dsimp only
      rw [List.map_map]
      rfl))
  rw [this, dD_tb', List.map_map]
  congr 2
  refine List.map_congr_left fun r _ => ?_
  show (match asL (rowD n (f r)) with | some xs => xs.map (fun e => match e with | Da.int z => Da.int (h z) | _ => Da.non) | none => []) = _
  rw [asL_rowD]
  dsimp only
  rw [List.map_map]
  rfl
theorem ev_other_way (h0 : 0 < n) (hn : n ≤ 10000) : f_other_way [dM (tb n n f)] = .ok (.ow2 (dD (tb n n fun r c => (n : Int) * n + 1 - f r c))) := by
  have ha := ev_asked_square (tb_sq (n := n) (f := f)) h0 hn
  have mm : mulOk (n : Int) (n : Int) = true := mulOk_l (by omega) (by omega)
  have hl : eLc2 (iL asL (eVar 0)) [2] un1 [2] (eLc (iL asL (eVar 2)) [3] un1 [3] (eOp kSub (eVar 1) (eVar 3))) [.sh (dM (tb n n f)), .sh (.int ((n : Int) * n + 1)), .dead, .dead] = .ok (.ow2 (dD (tb n n fun r c => (n : Int) * n + 1 - f r c))) :=
    map_lc (h := fun z => (n : Int) * n + 1 - z) hn rfl (fun d => rfl) (fun d z => rfl)
  simp only [f_other_way, g_other_way, sSeq_e, then_nx, then_rt, then_ex, fin_ok, fin_ex, sSet_e, sOwn_e, sRet_e, sExpr_e, sRetVar_e, retN_sh, retN_ow, retN_ow2, sIf_e, selS_t, selS_f, selE_t, selE_f, stf_f, stf_t, bind_ok, bind_ex, dat_sh, dat_ow, dat_ow2, dat_ex, ofO_some, eVar_e, eOp_e, eUn_e, eIf_e, fB_e, dB_bl, fAnd_e, fOr_e, andT_t, andT_f, andT_x, orT_t, orT_f, orT_x, fNot_e, eAnd_e, eOr_e, andE_t, andE_f, orE_t, orE_f, eNot_e, dN_bl, eCh_e, chN_t, chN_f, eCh3_e, chN2_t, chN2_f, aCons_e, aNil_e, eLst_e, eTup_e, eCall_e, eFn_e, eC_e, sTgt_e, tgtN_some, sPar_e, parN_e, sRaise_e, sNil_e, eTab_e, tabN_e, eIndexT_e, idxN_e, endS_rt, endS_nx, endS_ex, view_sh, view_ow, view_ow2, shs_cons, shs_nil, shO_sh, shO_dead, shO_ow, shO_ow2, setR_c, setR_n, un1_e, unT_e, oNone_e, oSome_e, dI_int, fDef, List.append_nil, List.nil_append, List.cons_append, List.replicate_succ, List.replicate_zero, List.length_cons, List.length_nil, List.set_cons_zero, List.set_cons_succ, List.getElem?_cons_zero, List.getElem?_cons_succ, Nat.sub_zero, Nat.reduceSub, Nat.reduceAdd, Nat.reduceLeDiff, if_true, if_false, ite_true, ite_false, Bool.false_eq_true, decide_true, decide_false, Bool.not_true, Bool.not_false, kSub_int, kAdd_int, kLt_int, kLe_int, kGt_int, kGe_int, kEq_int, kNe_int, kMod_int, kEq_pair, kNe_pair, Bool.and_true, Bool.and_false, Bool.true_and, Bool.false_and, List.map_cons, List.map_nil, ha, kLen_dMtb, kMul_int mm, hl]
end
theorem okO_ok {s : Sl} : okO (.ok s) = .ok s := rfl
theorem lnD_inj {a b : Ln} (h : lnD a = lnD b) : a = b := by
  cases a <;> cases b <;> simp only [lnD, Da.tup.injEq, List.cons.injEq, Da.str.injEq, Da.int.injEq, and_true] at h <;> first | rfl | (obtain ⟨h1, h2⟩ := h; first | (congr 1; omega) | exact absurd h1 (by decide +kernel)) | exact absurd h (by decide +kernel)
def lb : Ln → Ln → Bool
  | .row a, .row b => a == b
  | .col a, .col b => a == b
  | .down, .down => true
  | .up, .up => true
  | _, _ => false
theorem lb_iff {a b : Ln} : lb a b = true ↔ a = b := by
  cases a <;> cases b <;> simp [lb]
theorem eqF_ln {a b : Ln} {k : Nat} : eqF (k + 1) (lnD a) (lnD b) = lb a b := by
  have e1 : (("row" : Str) == "row") = true := by decide +kernel
  have e2 : (("column" : Str) == "column") = true := by decide +kernel
  have e3 : (("down" : Str) == "down") = true := by decide +kernel
  have e4 : (("up" : Str) == "up") = true := by decide +kernel
  have n1 : (("row" : Str) == "column") = false := by decide +kernel
  have n2 : (("row" : Str) == "down") = false := by decide +kernel
  have n3 : (("row" : Str) == "up") = false := by decide +kernel
  have n4 : (("column" : Str) == "row") = false := by decide +kernel
  have n5 : (("column" : Str) == "down") = false := by decide +kernel
  have n6 : (("column" : Str) == "up") = false := by decide +kernel
  have n7 : (("down" : Str) == "row") = false := by decide +kernel
  have n8 : (("down" : Str) == "column") = false := by decide +kernel
  have n9 : (("down" : Str) == "up") = false := by decide +kernel
  have n10 : (("up" : Str) == "row") = false := by decide +kernel
  have n11 : (("up" : Str) == "column") = false := by decide +kernel
  have n12 : (("up" : Str) == "down") = false := by decide +kernel
  have ic : ∀ a b : Nat, (((a : Int) == (b : Int))) = (a == b) := fun a b => by rw [Bool.eq_iff_iff, beq_iff_eq, beq_iff_eq]; omega
  cases a <;> cases b <;> simp only [lnD, eqF, eqL, lb, e1, e2, e3, e4, n1, n2, n3, n4, n5, n6, n7, n8, n9, n10, n11, n12, Bool.true_and, Bool.false_and, Bool.and_true, ic] <;> rfl
theorem fits_ln {a : Ln} {k : Nat} : fits (k + 1) (lnD a) = true := by
  have h : ∀ (w : Str) (i : Int), PyData.strOk w = true → fits (k + 1) (.tup [.str w, .int i]) = true := fun w i hw => by
    show ([Da.str w, Da.int i]).all (fits k) = true
    cases k <;> simp only [List.all_cons, List.all_nil, fits, hw, Bool.and_self]
  cases a <;> exact h _ _ (by decide +kernel)
def inB (a : Ln) (n : Nat) : Bool := (lns n).any fun l => lb l a
theorem inB_iff {a : Ln} {n : Nat} : inB a n = true ↔ a ∈ lns n := by
  unfold inB
  rw [List.any_eq_true]
  constructor
  · rintro ⟨l, h1, h2⟩
    rw [lb_iff] at h2
    subst h2
    exact h1
  · exact fun h => ⟨a, h, lb_iff.mpr rfl⟩
theorem kNotIn_ln {a : Ln} {n : Nat} : kNotIn (lnD a) (.lst ((lns n).map lnD)) = some (.sh (.bl (!inB a n))) := by
  unfold kNotIn kInB
  rw [show nrm (.lst ((lns n).map lnD)) = .lst ((lns n).map lnD) from rfl]
  dsimp only
  rw [show nrm (lnD a) = lnD a from by cases a <;> rfl, fits_ln, show fits 8 (.lst ((lns n).map lnD)) = true from by
    show ((lns n).map lnD).all (fits 7) = true
    rw [List.all_eq_true]
    intro d hd
    obtain ⟨l, _, rfl⟩ := List.mem_map.mp hd
    exact fits_ln]
  simp only [Bool.and_self, if_true]
  show some (Sl.sh (Da.bl (!(((lns n).map lnD).any fun z => eqF 8 z (lnD a))))) = _
  rw [List.any_map]
  unfold inB
  congr 5
  funext l
  exact eqF_ln
/-- what an answer says of a square -/
def evenB (xss : List (List Int)) (n : Nat) (s : Int) : Bool := ((lns n).map fun l => lsum xss n l == s).all id
def unlB (xss : List (List Int)) (n : Nat) (a b : Ln) : Bool := inB a n && (inB b n && !(lsum xss n a == lsum xss n b))
section
variable {xss : List (List Int)} {n : Nat} {s : Int} {a b : Ln}
theorem ev_even_shows (h : Sq xss n) (h0 : 0 < n) (h1 : n ≤ 10000) : f_Even_shows [.even (.int s), dM xss] = .ok (.sh (.bl (evenB xss n s))) := by
  have hl := ev_lines h1
  have hk : kLen [dM xss] = some (.sh (.int (n : Int))) := by rw [kLen_dM, h.1]
  have lc : eLc (iL asL (eFn f_lines (aCons (eCall kLen (aCons (eVar 1) (aNil))) (aNil)))) [2] un1 [2] (eOp kEq (eFn f_sum_along (aCons (eVar 1) (aCons (eVar 2) (aNil)))) (eUn kTotal (eVar 0))) [.sh (.even (.int s)), .sh (dM xss), .dead] = .ok (.ow (((lns n).map fun l => lsum xss n l == s).map .bl)) := by
    have := eLc_ok (fI := iL asL (eFn f_lines (aCons (eCall kLen (aCons (eVar 1) (aNil))) (aNil)))) (is := [2]) (un := un1) (vs := [2]) (fe := (eOp kEq (eFn f_sum_along (aCons (eVar 1) (aCons (eVar 2) (aNil)))) (eUn kTotal (eVar 0)))) (ρ := [.sh (.even (.int s)), .sh (dM xss), .dead]) (items := (lns n).map lnD)
      (fun d => match f_sum_along [dM xss, d] with | .ok (.sh (.int z)) => .bl (z == s) | _ => .non) (by simp only [iL_e, sSeq_e, then_nx, then_rt, then_ex, fin_ok, fin_ex, sSet_e, sOwn_e, sRet_e, sExpr_e, sRetVar_e, retN_sh, retN_ow, retN_ow2, sIf_e, selS_t, selS_f, selE_t, selE_f, stf_f, stf_t, bind_ok, bind_ex, dat_sh, dat_ow, dat_ow2, dat_ex, ofO_some, eVar_e, eOp_e, eUn_e, eIf_e, fB_e, dB_bl, fAnd_e, fOr_e, andT_t, andT_f, andT_x, orT_t, orT_f, orT_x, fNot_e, eAnd_e, eOr_e, andE_t, andE_f, orE_t, orE_f, eNot_e, dN_bl, eCh_e, chN_t, chN_f, eCh3_e, chN2_t, chN2_f, aCons_e, aNil_e, eLst_e, eTup_e, eCall_e, eFn_e, eC_e, sTgt_e, tgtN_some, sPar_e, parN_e, sRaise_e, sNil_e, eTab_e, tabN_e, eIndexT_e, idxN_e, endS_rt, endS_nx, endS_ex, view_sh, view_ow, view_ow2, shs_cons, shs_nil, shO_sh, shO_dead, shO_ow, shO_ow2, setR_c, setR_n, un1_e, unT_e, oNone_e, oSome_e, dI_int, fDef, List.append_nil, List.nil_append, List.cons_append, List.replicate_succ, List.replicate_zero, List.length_cons, List.length_nil, List.set_cons_zero, List.set_cons_succ, List.getElem?_cons_zero, List.getElem?_cons_succ, Nat.sub_zero, Nat.reduceSub, Nat.reduceAdd, Nat.reduceLeDiff, if_true, if_false, ite_true, ite_false, Bool.false_eq_true, decide_true, decide_false, Bool.not_true, Bool.not_false, kSub_int, kAdd_int, kLt_int, kLe_int, kGt_int, kGe_int, kEq_int, kNe_int, kMod_int, kEq_pair, kNe_pair, Bool.and_true, Bool.and_false, Bool.true_and, Bool.false_and, hk, hl, asL_lst]) (by rw [List.length_map, lns_len]; omega) (fun d hd => elD_un1 (by
        obtain ⟨l, hl, rfl⟩ := List.mem_map.mp hd
        simp only [wipeR, sSeq_e, then_nx, then_rt, then_ex, fin_ok, fin_ex, sSet_e, sOwn_e, sRet_e, sExpr_e, sRetVar_e, retN_sh, retN_ow, retN_ow2, sIf_e, selS_t, selS_f, selE_t, selE_f, stf_f, stf_t, bind_ok, bind_ex, dat_sh, dat_ow, dat_ow2, dat_ex, ofO_some, eVar_e, eOp_e, eUn_e, eIf_e, fB_e, dB_bl, fAnd_e, fOr_e, andT_t, andT_f, andT_x, orT_t, orT_f, orT_x, fNot_e, eAnd_e, eOr_e, andE_t, andE_f, orE_t, orE_f, eNot_e, dN_bl, eCh_e, chN_t, chN_f, eCh3_e, chN2_t, chN2_f, aCons_e, aNil_e, eLst_e, eTup_e, eCall_e, eFn_e, eC_e, sTgt_e, tgtN_some, sPar_e, parN_e, sRaise_e, sNil_e, eTab_e, tabN_e, eIndexT_e, idxN_e, endS_rt, endS_nx, endS_ex, view_sh, view_ow, view_ow2, shs_cons, shs_nil, shO_sh, shO_dead, shO_ow, shO_ow2, setR_c, setR_n, un1_e, unT_e, oNone_e, oSome_e, dI_int, fDef, List.append_nil, List.nil_append, List.cons_append, List.replicate_succ, List.replicate_zero, List.length_cons, List.length_nil, List.set_cons_zero, List.set_cons_succ, List.getElem?_cons_zero, List.getElem?_cons_succ, Nat.sub_zero, Nat.reduceSub, Nat.reduceAdd, Nat.reduceLeDiff, if_true, if_false, ite_true, ite_false, Bool.false_eq_true, decide_true, decide_false, Bool.not_true, Bool.not_false, kSub_int, kAdd_int, kLt_int, kLe_int, kGt_int, kGe_int, kEq_int, kNe_int, kMod_int, kEq_pair, kNe_pair, Bool.and_true, Bool.and_false, Bool.true_and, Bool.false_and, ev_sum_along h h0 h1 hl, kTotal]))
    rw [this, List.map_map, List.map_map]
    congr 2
    refine List.map_congr_left fun l hl => ?_
    show (match f_sum_along [dM xss, lnD l] with | .ok (.sh (.int z)) => Da.bl (z == s) | _ => .non) = _
    rw [ev_sum_along h h0 h1 hl]
    rfl
  simp only [f_Even_shows, g_Even_shows, sSeq_e, then_nx, then_rt, then_ex, fin_ok, fin_ex, sSet_e, sOwn_e, sRet_e, sExpr_e, sRetVar_e, retN_sh, retN_ow, retN_ow2, sIf_e, selS_t, selS_f, selE_t, selE_f, stf_f, stf_t, bind_ok, bind_ex, dat_sh, dat_ow, dat_ow2, dat_ex, ofO_some, eVar_e, eOp_e, eUn_e, eIf_e, fB_e, dB_bl, fAnd_e, fOr_e, andT_t, andT_f, andT_x, orT_t, orT_f, orT_x, fNot_e, eAnd_e, eOr_e, andE_t, andE_f, orE_t, orE_f, eNot_e, dN_bl, eCh_e, chN_t, chN_f, eCh3_e, chN2_t, chN2_f, aCons_e, aNil_e, eLst_e, eTup_e, eCall_e, eFn_e, eC_e, sTgt_e, tgtN_some, sPar_e, parN_e, sRaise_e, sNil_e, eTab_e, tabN_e, eIndexT_e, idxN_e, endS_rt, endS_nx, endS_ex, view_sh, view_ow, view_ow2, shs_cons, shs_nil, shO_sh, shO_dead, shO_ow, shO_ow2, setR_c, setR_n, un1_e, unT_e, oNone_e, oSome_e, dI_int, fDef, List.append_nil, List.nil_append, List.cons_append, List.replicate_succ, List.replicate_zero, List.length_cons, List.length_nil, List.set_cons_zero, List.set_cons_succ, List.getElem?_cons_zero, List.getElem?_cons_succ, Nat.sub_zero, Nat.reduceSub, Nat.reduceAdd, Nat.reduceLeDiff, if_true, if_false, ite_true, ite_false, Bool.false_eq_true, decide_true, decide_false, Bool.not_true, Bool.not_false, kSub_int, kAdd_int, kLt_int, kLe_int, kGt_int, kGe_int, kEq_int, kNe_int, kMod_int, kEq_pair, kNe_pair, Bool.and_true, Bool.and_false, Bool.true_and, Bool.false_and, List.map_cons, List.map_nil, lc, kAll_bls]
  rfl
theorem ev_unl_shows (h : Sq xss n) (h0 : 0 < n) (h1 : n ≤ 10000) : f_Unlike_shows [.unl (lnD a) (lnD b), dM xss] = .ok (.sh (.bl (unlB xss n a b))) := by
  have hl := ev_lines h1
  have hk : kLen [dM xss] = some (.sh (.int (n : Int))) := by rw [kLen_dM, h.1]
  unfold unlB
  cases ha : inB a n with
  | false => simp only [f_Unlike_shows, g_Unlike_shows, sSeq_e, then_nx, then_rt, then_ex, fin_ok, fin_ex, sSet_e, sOwn_e, sRet_e, sExpr_e, sRetVar_e, retN_sh, retN_ow, retN_ow2, sIf_e, selS_t, selS_f, selE_t, selE_f, stf_f, stf_t, bind_ok, bind_ex, dat_sh, dat_ow, dat_ow2, dat_ex, ofO_some, eVar_e, eOp_e, eUn_e, eIf_e, fB_e, dB_bl, fAnd_e, fOr_e, andT_t, andT_f, andT_x, orT_t, orT_f, orT_x, fNot_e, eAnd_e, eOr_e, andE_t, andE_f, orE_t, orE_f, eNot_e, dN_bl, eCh_e, chN_t, chN_f, eCh3_e, chN2_t, chN2_f, aCons_e, aNil_e, eLst_e, eTup_e, eCall_e, eFn_e, eC_e, sTgt_e, tgtN_some, sPar_e, parN_e, sRaise_e, sNil_e, eTab_e, tabN_e, eIndexT_e, idxN_e, endS_rt, endS_nx, endS_ex, view_sh, view_ow, view_ow2, shs_cons, shs_nil, shO_sh, shO_dead, shO_ow, shO_ow2, setR_c, setR_n, un1_e, unT_e, oNone_e, oSome_e, dI_int, fDef, List.append_nil, List.nil_append, List.cons_append, List.replicate_succ, List.replicate_zero, List.length_cons, List.length_nil, List.set_cons_zero, List.set_cons_succ, List.getElem?_cons_zero, List.getElem?_cons_succ, Nat.sub_zero, Nat.reduceSub, Nat.reduceAdd, Nat.reduceLeDiff, if_true, if_false, ite_true, ite_false, Bool.false_eq_true, decide_true, decide_false, Bool.not_true, Bool.not_false, kSub_int, kAdd_int, kLt_int, kLe_int, kGt_int, kGe_int, kEq_int, kNe_int, kMod_int, kEq_pair, kNe_pair, Bool.and_true, Bool.and_false, Bool.true_and, Bool.false_and, List.map_cons, List.map_nil, hk, hl, kOne, kOther, kNotIn_ln, ha]
  | true => cases hb : inB b n with
    | false => simp only [f_Unlike_shows, g_Unlike_shows, sSeq_e, then_nx, then_rt, then_ex, fin_ok, fin_ex, sSet_e, sOwn_e, sRet_e, sExpr_e, sRetVar_e, retN_sh, retN_ow, retN_ow2, sIf_e, selS_t, selS_f, selE_t, selE_f, stf_f, stf_t, bind_ok, bind_ex, dat_sh, dat_ow, dat_ow2, dat_ex, ofO_some, eVar_e, eOp_e, eUn_e, eIf_e, fB_e, dB_bl, fAnd_e, fOr_e, andT_t, andT_f, andT_x, orT_t, orT_f, orT_x, fNot_e, eAnd_e, eOr_e, andE_t, andE_f, orE_t, orE_f, eNot_e, dN_bl, eCh_e, chN_t, chN_f, eCh3_e, chN2_t, chN2_f, aCons_e, aNil_e, eLst_e, eTup_e, eCall_e, eFn_e, eC_e, sTgt_e, tgtN_some, sPar_e, parN_e, sRaise_e, sNil_e, eTab_e, tabN_e, eIndexT_e, idxN_e, endS_rt, endS_nx, endS_ex, view_sh, view_ow, view_ow2, shs_cons, shs_nil, shO_sh, shO_dead, shO_ow, shO_ow2, setR_c, setR_n, un1_e, unT_e, oNone_e, oSome_e, dI_int, fDef, List.append_nil, List.nil_append, List.cons_append, List.replicate_succ, List.replicate_zero, List.length_cons, List.length_nil, List.set_cons_zero, List.set_cons_succ, List.getElem?_cons_zero, List.getElem?_cons_succ, Nat.sub_zero, Nat.reduceSub, Nat.reduceAdd, Nat.reduceLeDiff, if_true, if_false, ite_true, ite_false, Bool.false_eq_true, decide_true, decide_false, Bool.not_true, Bool.not_false, kSub_int, kAdd_int, kLt_int, kLe_int, kGt_int, kGe_int, kEq_int, kNe_int, kMod_int, kEq_pair, kNe_pair, Bool.and_true, Bool.and_false, Bool.true_and, Bool.false_and, List.map_cons, List.map_nil, hk, hl, kOne, kOther, kNotIn_ln, ha, hb]
    | true =>
      simp only [f_Unlike_shows, g_Unlike_shows, sSeq_e, then_nx, then_rt, then_ex, fin_ok, fin_ex, sSet_e, sOwn_e, sRet_e, sExpr_e, sRetVar_e, retN_sh, retN_ow, retN_ow2, sIf_e, selS_t, selS_f, selE_t, selE_f, stf_f, stf_t, bind_ok, bind_ex, dat_sh, dat_ow, dat_ow2, dat_ex, ofO_some, eVar_e, eOp_e, eUn_e, eIf_e, fB_e, dB_bl, fAnd_e, fOr_e, andT_t, andT_f, andT_x, orT_t, orT_f, orT_x, fNot_e, eAnd_e, eOr_e, andE_t, andE_f, orE_t, orE_f, eNot_e, dN_bl, eCh_e, chN_t, chN_f, eCh3_e, chN2_t, chN2_f, aCons_e, aNil_e, eLst_e, eTup_e, eCall_e, eFn_e, eC_e, sTgt_e, tgtN_some, sPar_e, parN_e, sRaise_e, sNil_e, eTab_e, tabN_e, eIndexT_e, idxN_e, endS_rt, endS_nx, endS_ex, view_sh, view_ow, view_ow2, shs_cons, shs_nil, shO_sh, shO_dead, shO_ow, shO_ow2, setR_c, setR_n, un1_e, unT_e, oNone_e, oSome_e, dI_int, fDef, List.append_nil, List.nil_append, List.cons_append, List.replicate_succ, List.replicate_zero, List.length_cons, List.length_nil, List.set_cons_zero, List.set_cons_succ, List.getElem?_cons_zero, List.getElem?_cons_succ, Nat.sub_zero, Nat.reduceSub, Nat.reduceAdd, Nat.reduceLeDiff, if_true, if_false, ite_true, ite_false, Bool.false_eq_true, decide_true, decide_false, Bool.not_true, Bool.not_false, kSub_int, kAdd_int, kLt_int, kLe_int, kGt_int, kGe_int, kEq_int, kNe_int, kMod_int, kEq_pair, kNe_pair, Bool.and_true, Bool.and_false, Bool.true_and, Bool.false_and, List.map_cons, List.map_nil, hk, hl, kOne, kOther, kNotIn_ln, ha, hb, ev_sum_along h h0 h1 (inB_iff.mp ha), ev_sum_along h h0 h1 (inB_iff.mp hb)]
      try rfl
end
def three (a b c : Int) : List (List Int) := [[a + b, a - b - c, a + c], [a - b + c, a, a + b - c], [a - c, a + b + c, a - b]]
theorem three_sq {a b c : Int} : Sq (three a b c) 3 := by
  refine ⟨rfl, fun r hr => ?_⟩
  unfold three at hr
  simp only [List.mem_cons, List.not_mem_nil, or_false] at hr
  rcases hr with rfl | rfl | rfl <;> rfl
theorem told_even {xss : List (List Int)} {n : Nat} {s : Int} (h : Sq xss n) (h0 : 0 < n) (h1 : n ≤ 10000) (hs : ∀ l ∈ lns n, lsum xss n l = s) : f_told [dM xss] = .ok (.sh (.even (.int s))) := by
  have h2 := hs _ (row0_mem h0)
  rcases ev_told h h0 h1 with ⟨_, q⟩ | ⟨l, q1, q2, q3⟩
  · rw [q, h2]
  · exact absurd ((hs l q1).trans h2.symm) q2
theorem lsum_tb {n : Nat} {F : Nat → Nat → Int} {s : Int} (hr : ∀ k, k < n → psum (tb n n F) n (.row k) n = s) (hc : ∀ k, k < n → psum (tb n n F) n (.col k) n = s) (hd : psum (tb n n F) n .down n = s) (hu : psum (tb n n F) n .up n = s) : ∀ l ∈ lns n, lsum (tb n n F) n l = s := by
  intro l hl
  cases l with
  | row k => exact hr k (row_mem hl)
  | col k => exact hc k (col_mem hl)
  | down => exact hd
  | up => exact hu
theorem sum3 {F : Nat → Nat → Int} {s : Int} (a0 : F 0 0 + F 0 1 + F 0 2 = s) (a1 : F 1 0 + F 1 1 + F 1 2 = s) (a2 : F 2 0 + F 2 1 + F 2 2 = s) (b0 : F 0 0 + F 1 0 + F 2 0 = s) (b1 : F 0 1 + F 1 1 + F 2 1 = s) (b2 : F 0 2 + F 1 2 + F 2 2 = s) (d : F 0 0 + F 1 1 + F 2 2 = s) (u : F 2 0 + F 1 1 + F 0 2 = s) :
    ∀ l ∈ lns 3, lsum (tb 3 3 F) 3 l = s := by
  have e : ∀ i j, i < 3 → j < 3 → ent (tb 3 3 F) i j = F i j := fun i j hi hj => tb_ent hi hj
  refine lsum_tb (fun k hk => ?_) (fun k hk => ?_) ?_ ?_
  · have : k = 0 ∨ k = 1 ∨ k = 2 := by omega
    rcases this with rfl | rfl | rfl
    · show 0 + ent (tb 3 3 F) 0 0 + ent (tb 3 3 F) 0 1 + ent (tb 3 3 F) 0 2 = s
      rw [e 0 0 (by decide) (by decide), e 0 1 (by decide) (by decide), e 0 2 (by decide) (by decide)]; omega
    · show 0 + ent (tb 3 3 F) 1 0 + ent (tb 3 3 F) 1 1 + ent (tb 3 3 F) 1 2 = s
      rw [e 1 0 (by decide) (by decide), e 1 1 (by decide) (by decide), e 1 2 (by decide) (by decide)]; omega
    · show 0 + ent (tb 3 3 F) 2 0 + ent (tb 3 3 F) 2 1 + ent (tb 3 3 F) 2 2 = s
      rw [e 2 0 (by decide) (by decide), e 2 1 (by decide) (by decide), e 2 2 (by decide) (by decide)]; omega
  · have : k = 0 ∨ k = 1 ∨ k = 2 := by omega
    rcases this with rfl | rfl | rfl
    · show 0 + ent (tb 3 3 F) 0 0 + ent (tb 3 3 F) 1 0 + ent (tb 3 3 F) 2 0 = s
      rw [e 0 0 (by decide) (by decide), e 1 0 (by decide) (by decide), e 2 0 (by decide) (by decide)]; omega
    · show 0 + ent (tb 3 3 F) 0 1 + ent (tb 3 3 F) 1 1 + ent (tb 3 3 F) 2 1 = s
      rw [e 0 1 (by decide) (by decide), e 1 1 (by decide) (by decide), e 2 1 (by decide) (by decide)]; omega
    · show 0 + ent (tb 3 3 F) 0 2 + ent (tb 3 3 F) 1 2 + ent (tb 3 3 F) 2 2 = s
      rw [e 0 2 (by decide) (by decide), e 1 2 (by decide) (by decide), e 2 2 (by decide) (by decide)]; omega
  · show 0 + ent (tb 3 3 F) 0 0 + ent (tb 3 3 F) 1 1 + ent (tb 3 3 F) 2 2 = s
    rw [e 0 0 (by decide) (by decide), e 1 1 (by decide) (by decide), e 2 2 (by decide) (by decide)]; omega
  · show 0 + ent (tb 3 3 F) 2 0 + ent (tb 3 3 F) 1 1 + ent (tb 3 3 F) 0 2 = s
    rw [e 2 0 (by decide) (by decide), e 1 1 (by decide) (by decide), e 0 2 (by decide) (by decide)]; omega
structure Ev3 (F : Nat → Nat → Int) (s : Int) : Prop where
  a0 : F 0 0 + F 0 1 + F 0 2 = s
  a1 : F 1 0 + F 1 1 + F 1 2 = s
  a2 : F 2 0 + F 2 1 + F 2 2 = s
  b0 : F 0 0 + F 1 0 + F 2 0 = s
  b1 : F 0 1 + F 1 1 + F 2 1 = s
  b2 : F 0 2 + F 1 2 + F 2 2 = s
  d : F 0 0 + F 1 1 + F 2 2 = s
  u : F 2 0 + F 1 1 + F 0 2 = s
theorem ev3_three {a b c : Int} : Ev3 (ent (three a b c)) (3 * a) := by
  constructor
  · show (a + b) + (a - b - c) + (a + c) = 3 * a; omega
  · show (a - b + c) + a + (a + b - c) = 3 * a; omega
  · show (a - c) + (a + b + c) + (a - b) = 3 * a; omega
  · show (a + b) + (a - b + c) + (a - c) = 3 * a; omega
  · show (a - b - c) + a + (a + b + c) = 3 * a; omega
  · show (a + c) + (a + b - c) + (a - b) = 3 * a; omega
  · show (a + b) + a + (a - b) = 3 * a; omega
  · show (a - c) + a + (a + c) = 3 * a; omega
theorem ev3_sum {F : Nat → Nat → Int} {s : Int} (h : Ev3 F s) : ∀ l ∈ lns 3, lsum (tb 3 3 F) 3 l = s := sum3 h.a0 h.a1 h.a2 h.b0 h.b1 h.b2 h.d h.u
end K08

namespace K08
open PySem PySem.Spec PyProof.Rows L2 G6
/-! ### plain things -/
def plD : Nat → Da → Bool
  | 0, _ => false
  | _ + 1, .int _ => true
  | _ + 1, .str _ => true
  | _ + 1, .non => true
  | k + 1, .lst xs => decide (xs.length ≤ 1000000) && xs.all (plD k)
  | k + 1, .tup xs => decide (xs.length ≤ 1000000) && xs.all (plD k)
  | _ + 1, _ => false
theorem pl_lc {k : Nat} {d : Da} {xs : List Da} (hu : unLT d = some xs) (hl : xs.length ≤ 1000000) (ih : ∀ x ∈ xs, f__law_plain k [x] = .ok (.sh (.bl true))) : eLc (iL unLT (eVar 0)) [1] un1 [1] (eFn (f__law_plain k) (aCons (eVar 1) (aNil))) [.sh d, .dead] = .ok (.ow (xs.map fun _ => .bl true)) :=
  eLc_ok (fun _ => .bl true) (by simp only [iL_e, sSeq_e, then_nx, then_rt, then_ex, fin_ok, fin_ex, sSet_e, sOwn_e, sRet_e, sExpr_e, sRetVar_e, retN_sh, retN_ow, retN_ow2, sIf_e, selS_t, selS_f, selE_t, selE_f, stf_f, stf_t, bind_ok, bind_ex, dat_sh, dat_ow, dat_ow2, dat_ex, ofO_some, eVar_e, eOp_e, eUn_e, eIf_e, fB_e, dB_bl, fAnd_e, fOr_e, andT_t, andT_f, andT_x, orT_t, orT_f, orT_x, fNot_e, eAnd_e, eOr_e, andE_t, andE_f, orE_t, orE_f, eNot_e, dN_bl, eCh_e, chN_t, chN_f, eCh3_e, chN2_t, chN2_f, aCons_e, aNil_e, eLst_e, eTup_e, eCall_e, eFn_e, eC_e, sTgt_e, tgtN_some, sPar_e, parN_e, sRaise_e, sNil_e, eTab_e, tabN_e, eIndexT_e, idxN_e, endS_rt, endS_nx, endS_ex, view_sh, view_ow, view_ow2, shs_cons, shs_nil, shO_sh, shO_dead, shO_ow, shO_ow2, setR_c, setR_n, un1_e, unT_e, oNone_e, oSome_e, dI_int, fDef, List.append_nil, List.nil_append, List.cons_append, List.replicate_succ, List.replicate_zero, List.length_cons, List.length_nil, List.set_cons_zero, List.set_cons_succ, List.getElem?_cons_zero, List.getElem?_cons_succ, Nat.sub_zero, Nat.reduceSub, Nat.reduceAdd, Nat.reduceLeDiff, if_true, if_false, ite_true, ite_false, Bool.false_eq_true, decide_true, decide_false, Bool.not_true, Bool.not_false, kSub_int, kAdd_int, kLt_int, kLe_int, kGt_int, kGe_int, kEq_int, kNe_int, kMod_int, kEq_pair, kNe_pair, Bool.and_true, Bool.and_false, Bool.true_and, Bool.false_and, hu]) hl (fun x hx => elD_un1 (by simp only [wipeR, sSeq_e, then_nx, then_rt, then_ex, fin_ok, fin_ex, sSet_e, sOwn_e, sRet_e, sExpr_e, sRetVar_e, retN_sh, retN_ow, retN_ow2, sIf_e, selS_t, selS_f, selE_t, selE_f, stf_f, stf_t, bind_ok, bind_ex, dat_sh, dat_ow, dat_ow2, dat_ex, ofO_some, eVar_e, eOp_e, eUn_e, eIf_e, fB_e, dB_bl, fAnd_e, fOr_e, andT_t, andT_f, andT_x, orT_t, orT_f, orT_x, fNot_e, eAnd_e, eOr_e, andE_t, andE_f, orE_t, orE_f, eNot_e, dN_bl, eCh_e, chN_t, chN_f, eCh3_e, chN2_t, chN2_f, aCons_e, aNil_e, eLst_e, eTup_e, eCall_e, eFn_e, eC_e, sTgt_e, tgtN_some, sPar_e, parN_e, sRaise_e, sNil_e, eTab_e, tabN_e, eIndexT_e, idxN_e, endS_rt, endS_nx, endS_ex, view_sh, view_ow, view_ow2, shs_cons, shs_nil, shO_sh, shO_dead, shO_ow, shO_ow2, setR_c, setR_n, un1_e, unT_e, oNone_e, oSome_e, dI_int, fDef, List.append_nil, List.nil_append, List.cons_append, List.replicate_succ, List.replicate_zero, List.length_cons, List.length_nil, List.set_cons_zero, List.set_cons_succ, List.getElem?_cons_zero, List.getElem?_cons_succ, Nat.sub_zero, Nat.reduceSub, Nat.reduceAdd, Nat.reduceLeDiff, if_true, if_false, ite_true, ite_false, Bool.false_eq_true, decide_true, decide_false, Bool.not_true, Bool.not_false, kSub_int, kAdd_int, kLt_int, kLe_int, kGt_int, kGe_int, kEq_int, kNe_int, kMod_int, kEq_pair, kNe_pair, Bool.and_true, Bool.and_false, Bool.true_and, Bool.false_and, ih x hx]))
theorem ev_plain : ∀ (k : Nat) (d : Da), plD k d = true → f__law_plain k [d] = .ok (.sh (.bl true))
  | 0, d, h => by simp [plD] at h
  | k + 1, .int i, _ => rfl
  | k + 1, .str i, _ => rfl
  | k + 1, .non, _ => rfl
  | k + 1, .lst xs, h => by
    simp only [plD, Bool.and_eq_true, decide_eq_true_eq] at h
    have lc := pl_lc (k := k) (d := .lst xs) (xs := xs) rfl h.1 fun x hx => ev_plain k x (List.all_eq_true.mp h.2 x hx)
    have k1 : kIsi .list (.lst xs) = some (.sh (.bl true)) := rfl
    have g0 : f__law_plain (k + 1) [.lst xs] = endS (g__law_plain (f__law_plain k) [.sh (.lst xs), .dead]) := rfl
    rw [g0]
    unfold g__law_plain
    simp only [sSeq_e, then_nx, then_rt, then_ex, fin_ok, fin_ex, sSet_e, sOwn_e, sRet_e, sExpr_e, sRetVar_e, retN_sh, retN_ow, retN_ow2, sIf_e, selS_t, selS_f, selE_t, selE_f, stf_f, stf_t, bind_ok, bind_ex, dat_sh, dat_ow, dat_ow2, dat_ex, ofO_some, eVar_e, eOp_e, eUn_e, eIf_e, fB_e, dB_bl, fAnd_e, fOr_e, andT_t, andT_f, andT_x, orT_t, orT_f, orT_x, fNot_e, eAnd_e, eOr_e, andE_t, andE_f, orE_t, orE_f, eNot_e, dN_bl, eCh_e, chN_t, chN_f, eCh3_e, chN2_t, chN2_f, aCons_e, aNil_e, eLst_e, eTup_e, eCall_e, eFn_e, eC_e, sTgt_e, tgtN_some, sPar_e, parN_e, sRaise_e, sNil_e, eTab_e, tabN_e, eIndexT_e, idxN_e, endS_rt, endS_nx, endS_ex, view_sh, view_ow, view_ow2, shs_cons, shs_nil, shO_sh, shO_dead, shO_ow, shO_ow2, setR_c, setR_n, un1_e, unT_e, oNone_e, oSome_e, dI_int, fDef, List.append_nil, List.nil_append, List.cons_append, List.replicate_succ, List.replicate_zero, List.length_cons, List.length_nil, List.set_cons_zero, List.set_cons_succ, List.getElem?_cons_zero, List.getElem?_cons_succ, Nat.sub_zero, Nat.reduceSub, Nat.reduceAdd, Nat.reduceLeDiff, if_true, if_false, ite_true, ite_false, Bool.false_eq_true, decide_true, decide_false, Bool.not_true, Bool.not_false, kSub_int, kAdd_int, kLt_int, kLe_int, kGt_int, kGe_int, kEq_int, kNe_int, kMod_int, kEq_pair, kNe_pair, Bool.and_true, Bool.and_false, Bool.true_and, Bool.false_and, k1, lc, kAll_true]
  | k + 1, .tup xs, h => by
    simp only [plD, Bool.and_eq_true, decide_eq_true_eq] at h
    have lc := pl_lc (k := k) (d := .tup xs) (xs := xs) rfl h.1 fun x hx => ev_plain k x (List.all_eq_true.mp h.2 x hx)
    have k1 : kIsi .list (.tup xs) = some (.sh (.bl false)) := rfl
    have k2 : kIsi .tuple (.tup xs) = some (.sh (.bl true)) := rfl
    have g0 : f__law_plain (k + 1) [.tup xs] = endS (g__law_plain (f__law_plain k) [.sh (.tup xs), .dead]) := rfl
    rw [g0]
    unfold g__law_plain
    simp only [sSeq_e, then_nx, then_rt, then_ex, fin_ok, fin_ex, sSet_e, sOwn_e, sRet_e, sExpr_e, sRetVar_e, retN_sh, retN_ow, retN_ow2, sIf_e, selS_t, selS_f, selE_t, selE_f, stf_f, stf_t, bind_ok, bind_ex, dat_sh, dat_ow, dat_ow2, dat_ex, ofO_some, eVar_e, eOp_e, eUn_e, eIf_e, fB_e, dB_bl, fAnd_e, fOr_e, andT_t, andT_f, andT_x, orT_t, orT_f, orT_x, fNot_e, eAnd_e, eOr_e, andE_t, andE_f, orE_t, orE_f, eNot_e, dN_bl, eCh_e, chN_t, chN_f, eCh3_e, chN2_t, chN2_f, aCons_e, aNil_e, eLst_e, eTup_e, eCall_e, eFn_e, eC_e, sTgt_e, tgtN_some, sPar_e, parN_e, sRaise_e, sNil_e, eTab_e, tabN_e, eIndexT_e, idxN_e, endS_rt, endS_nx, endS_ex, view_sh, view_ow, view_ow2, shs_cons, shs_nil, shO_sh, shO_dead, shO_ow, shO_ow2, setR_c, setR_n, un1_e, unT_e, oNone_e, oSome_e, dI_int, fDef, List.append_nil, List.nil_append, List.cons_append, List.replicate_succ, List.replicate_zero, List.length_cons, List.length_nil, List.set_cons_zero, List.set_cons_succ, List.getElem?_cons_zero, List.getElem?_cons_succ, Nat.sub_zero, Nat.reduceSub, Nat.reduceAdd, Nat.reduceLeDiff, if_true, if_false, ite_true, ite_false, Bool.false_eq_true, decide_true, decide_false, Bool.not_true, Bool.not_false, kSub_int, kAdd_int, kLt_int, kLe_int, kGt_int, kGe_int, kEq_int, kNe_int, kMod_int, kEq_pair, kNe_pair, Bool.and_true, Bool.and_false, Bool.true_and, Bool.false_and, k1, k2, lc, kAll_true]
  | k + 1, .bl _, h => by simp [plD] at h
  | k + 1, .emp, h => by simp [plD] at h
  | k + 1, .even _, h => by simp [plD] at h
  | k + 1, .unl _ _, h => by simp [plD] at h
  | k + 1, .scr _, h => by simp [plD] at h
  | k + 1, .kt _, h => by simp [plD] at h
  | k + 1, .err, h => by simp [plD] at h
theorem pl_dM {k : Nat} {xss : List (List Int)} {n : Nat} (h : Sq xss n) (hn : n ≤ 10000) : plD (k + 3) (dM xss) = true := by
  show (decide ((xss.map fun r => Da.lst (r.map .int)).length ≤ 1000000) && (xss.map fun r => Da.lst (r.map .int)).all (plD (k + 2))) = true
  rw [Bool.and_eq_true, decide_eq_true_eq, List.length_map, h.1]
  refine ⟨by omega, List.all_eq_true.mpr fun d hd => ?_⟩
  obtain ⟨r, hr, rfl⟩ := List.mem_map.mp hd
  show (decide ((r.map Da.int).length ≤ 1000000) && (r.map Da.int).all (plD (k + 1))) = true
  rw [Bool.and_eq_true, decide_eq_true_eq, List.length_map, h.2 r hr]
  refine ⟨by omega, List.all_eq_true.mpr fun d hd => ?_⟩
  obtain ⟨i, _, rfl⟩ := List.mem_map.mp hd
  rfl
theorem pl_ln {k : Nat} (l : Ln) : plD (k + 2) (lnD l) = true := by cases l <;> rfl
/-! ### the drawn number -/
theorem ev_number {c a m : Int} (hc : Bt 1048600 c) (a0 : 0 ≤ a) (a1 : a ≤ 1000) : ∃ z, f__law_number [.int c, .int a, .int m] = .ok (.sh (.int z)) := by
  by_cases e : (10 : Int) ^ 18 ≤ c
  · have d7 : divOk c (1 + a % 7) = true := divOk_s (by omega) (by omega)
    refine ⟨c / (1 + a % 7), ?_⟩
    simp (disch := omega) only [f__law_number, g__law_number, sSeq_e, then_nx, then_rt, then_ex, fin_ok, fin_ex, sSet_e, sOwn_e, sRet_e, sExpr_e, sRetVar_e, retN_sh, retN_ow, retN_ow2, sIf_e, selS_t, selS_f, selE_t, selE_f, stf_f, stf_t, bind_ok, bind_ex, dat_sh, dat_ow, dat_ow2, dat_ex, ofO_some, eVar_e, eOp_e, eUn_e, eIf_e, fB_e, dB_bl, fAnd_e, fOr_e, andT_t, andT_f, andT_x, orT_t, orT_f, orT_x, fNot_e, eAnd_e, eOr_e, andE_t, andE_f, orE_t, orE_f, eNot_e, dN_bl, eCh_e, chN_t, chN_f, eCh3_e, chN2_t, chN2_f, aCons_e, aNil_e, eLst_e, eTup_e, eCall_e, eFn_e, eC_e, sTgt_e, tgtN_some, sPar_e, parN_e, sRaise_e, sNil_e, eTab_e, tabN_e, eIndexT_e, idxN_e, endS_rt, endS_nx, endS_ex, view_sh, view_ow, view_ow2, shs_cons, shs_nil, shO_sh, shO_dead, shO_ow, shO_ow2, setR_c, setR_n, un1_e, unT_e, oNone_e, oSome_e, dI_int, fDef, List.append_nil, List.nil_append, List.cons_append, List.replicate_succ, List.replicate_zero, List.length_cons, List.length_nil, List.set_cons_zero, List.set_cons_succ, List.getElem?_cons_zero, List.getElem?_cons_succ, Nat.sub_zero, Nat.reduceSub, Nat.reduceAdd, Nat.reduceLeDiff, if_true, if_false, ite_true, ite_false, Bool.false_eq_true, decide_true, decide_false, Bool.not_true, Bool.not_false, kSub_int, kAdd_int, kLt_int, kLe_int, kGt_int, kGe_int, kEq_int, kNe_int, kMod_int, kEq_pair, kNe_pair, Bool.and_true, Bool.and_false, Bool.true_and, Bool.false_and, List.map_cons, List.map_nil, pow18, decide_eq_true e, kDiv_int d7]
  · have m1 : mulOk 977 a = true := mulOk_l (by omega) (by omega)
    have m2 : mulOk (c + 977 * a) 48271 = true := mulOk_r (by omega) (by omega)
    have b0 : 0 ≤ ((c + 977 * a) * 48271 + m) % 2147483647 := Int.emod_nonneg _ (by omega)
    have b1 : ((c + 977 * a) * 48271 + m) % 2147483647 < 2147483647 := Int.emod_lt_of_pos _ (by omega)
    generalize hb : ((c + 977 * a) * 48271 + m) % 2147483647 = b at b0 b1
    have m3 : mulOk 31 a = true := mulOk_l (by omega) (by omega)
    have m4 : mulOk b (c + 31 * a + 7) = true := mulOk_l (by omega) (by omega)
    have bb : Bt 64 b := Bt.small (by omega) (by omega)
    have c1 : Bt 1048602 (c + 31 * a + 7) := (hc.add ((Bt.small (i := 31 * a) (by omega) (by omega)).mono (by decide))).add ((Bt.small (i := 7) (by omega) (by omega)).mono (by decide))
    have c2 : Bt 1048602 (b + c + 5) := ((bb.mono (by decide)).add hc).add ((Bt.small (i := 5) (by omega) (by omega)).mono (by decide))
    have m5 : mulOk (b * (c + 31 * a + 7)) (b + c + 5) = true := (bb.mul c1).ok c2
    have m6 : mulOk b b = true := mulOk_l (by omega) (by omega)
    have sq : b * b ≤ 2147483647 * 2147483647 := Int.mul_le_mul (by omega) (by omega) b0 (by omega)
    have sq0 : 0 ≤ b * b := Int.mul_nonneg b0 b0
    have m7 : mulOk (b * (c + 31 * a + 7) * (b + c + 5)) (b * b + 11) = true := mulOk_r (by omega) (by omega)
    have d8 : ∀ x, divOk x (1009 + a) = true := fun x => divOk_s (by omega) (by omega)
    refine ⟨b * (c + 31 * a + 7) * (b + c + 5) * (b * b + 11) / (1009 + a), ?_⟩
    simp (disch := omega) only [f__law_number, g__law_number, sSeq_e, then_nx, then_rt, then_ex, fin_ok, fin_ex, sSet_e, sOwn_e, sRet_e, sExpr_e, sRetVar_e, retN_sh, retN_ow, retN_ow2, sIf_e, selS_t, selS_f, selE_t, selE_f, stf_f, stf_t, bind_ok, bind_ex, dat_sh, dat_ow, dat_ow2, dat_ex, ofO_some, eVar_e, eOp_e, eUn_e, eIf_e, fB_e, dB_bl, fAnd_e, fOr_e, andT_t, andT_f, andT_x, orT_t, orT_f, orT_x, fNot_e, eAnd_e, eOr_e, andE_t, andE_f, orE_t, orE_f, eNot_e, dN_bl, eCh_e, chN_t, chN_f, eCh3_e, chN2_t, chN2_f, aCons_e, aNil_e, eLst_e, eTup_e, eCall_e, eFn_e, eC_e, sTgt_e, tgtN_some, sPar_e, parN_e, sRaise_e, sNil_e, eTab_e, tabN_e, eIndexT_e, idxN_e, endS_rt, endS_nx, endS_ex, view_sh, view_ow, view_ow2, shs_cons, shs_nil, shO_sh, shO_dead, shO_ow, shO_ow2, setR_c, setR_n, un1_e, unT_e, oNone_e, oSome_e, dI_int, fDef, List.append_nil, List.nil_append, List.cons_append, List.replicate_succ, List.replicate_zero, List.length_cons, List.length_nil, List.set_cons_zero, List.set_cons_succ, List.getElem?_cons_zero, List.getElem?_cons_succ, Nat.sub_zero, Nat.reduceSub, Nat.reduceAdd, Nat.reduceLeDiff, if_true, if_false, ite_true, ite_false, Bool.false_eq_true, decide_true, decide_false, Bool.not_true, Bool.not_false, kSub_int, kAdd_int, kLt_int, kLe_int, kGt_int, kGe_int, kEq_int, kNe_int, kMod_int, kEq_pair, kNe_pair, Bool.and_true, Bool.and_false, Bool.true_and, Bool.false_and, List.map_cons, List.map_nil, pow18, decide_eq_false e, kMul_int m1, kMul_int m2, hb, kMul_int m3, kMul_int m4, kMul_int m5, kMul_int m6, kMul_int m7, (fun x => kDiv_int (d8 x))]
/-! ### a square's answers -/
theorem ev_truths {a b c : Bool} : f__law_truths [.lst [.bl a, .bl b, .bl c]] = .ok (.sh (.bl true)) := by
  cases a <;> cases b <;> cases c <;> kernel_rfl
theorem eSh_even {f : Sem1} {fs : Rho → Rs (List Da)} {m1 m2 : List Da → Rs Sl} {ρ : Rho} {t : Da} {ds : List Da} (h : dat (f ρ) = .ok (.even t)) (h2 : fs ρ = .ok ds) : eShows f fs m1 m2 ρ = okO (m1 (.even t :: ds)) := by
  unfold eShows; rw [h, bind_ok]; dsimp only; rw [h2, bind_ok]
theorem eSh_unl {f : Sem1} {fs : Rho → Rs (List Da)} {m1 m2 : List Da → Rs Sl} {ρ : Rho} {t u : Da} {ds : List Da} (h : dat (f ρ) = .ok (.unl t u)) (h2 : fs ρ = .ok ds) : eShows f fs m1 m2 ρ = okO (m2 (.unl t u :: ds)) := by
  unfold eShows; rw [h, bind_ok]; dsimp only; rw [h2, bind_ok]
section
variable {xss : List (List Int)} {n : Nat}
theorem shown {ans x2 : Da} (h : Sq xss n) (h0 : 0 < n) (h1 : n ≤ 10000) (ha : (∃ t : Int, ans = .even (.int t)) ∨ ∃ a b : Ln, ans = .unl (lnD a) (lnD b)) :
    ∃ a b c : Bool, eLc (iL asL (eLst (aCons (eVar 1) (aCons (eEven (aCons (eC (.int 15)) (aNil))) (aCons (eUnl (aCons (eTup (aCons (eC (.str "row")) (aCons (eC (.int 0)) (aNil)))) (aCons (eTup (aCons (eC (.str "column")) (aCons (eC (.int 0)) (aNil)))) (aNil)))) (aNil)))))) [4] un1 [4] (eShows (eVar 4) (aCons (eVar 0) (aNil)) f_Even_shows f_Unlike_shows) [.sh (dM xss), .sh ans, .sh x2, .dead, .dead] = .ok (.ow [.bl a, .bl b, .bl c]) := by
  obtain ⟨a, e1⟩ : ∃ a, eShows (eVar 4) (aCons (eVar 0) (aNil)) f_Even_shows f_Unlike_shows [.sh (dM xss), .sh ans, .sh x2, .dead, .sh ans] = .ok (.sh (.bl a)) := by
    rcases ha with ⟨t, rfl⟩ | ⟨l, l', rfl⟩
    · exact ⟨_, by rw [eSh_even (t := .int t) (ds := [dM xss]) rfl rfl, ev_even_shows h h0 h1]; rfl⟩
    · exact ⟨_, by rw [eSh_unl (t := lnD l) (u := lnD l') (ds := [dM xss]) rfl rfl, ev_unl_shows h h0 h1]; rfl⟩
  have e2 : eShows (eVar 4) (aCons (eVar 0) (aNil)) f_Even_shows f_Unlike_shows [.sh (dM xss), .sh ans, .sh x2, .dead, .sh (.even (.int 15))] = .ok (.sh (.bl (evenB xss n 15))) := by
    rw [eSh_even (t := .int 15) (ds := [dM xss]) rfl rfl, ev_even_shows h h0 h1]; rfl
  have e3 : eShows (eVar 4) (aCons (eVar 0) (aNil)) f_Even_shows f_Unlike_shows [.sh (dM xss), .sh ans, .sh x2, .dead, .sh (.unl (lnD (.row 0)) (lnD (.col 0)))] = .ok (.sh (.bl (unlB xss n (.row 0) (.col 0)))) := by
    rw [eSh_unl (t := lnD (.row 0)) (u := lnD (.col 0)) (ds := [dM xss]) rfl rfl, ev_unl_shows h h0 h1]; rfl
  have hi : iL asL (eLst (aCons (eVar 1) (aCons (eEven (aCons (eC (.int 15)) (aNil))) (aCons (eUnl (aCons (eTup (aCons (eC (.str "row")) (aCons (eC (.int 0)) (aNil)))) (aCons (eTup (aCons (eC (.str "column")) (aCons (eC (.int 0)) (aNil)))) (aNil)))) (aNil))))) [.sh (dM xss), .sh ans, .sh x2, .dead, .dead] = .ok [ans, .even (.int 15), .unl (lnD (.row 0)) (lnD (.col 0))] := rfl
  refine ⟨a, evenB xss n 15, unlB xss n (.row 0) (.col 0), ?_⟩
  unfold eLc
  rw [hi]
  have q1 : elD [4] un1 [4] (eShows (eVar 4) (aCons (eVar 0) (aNil)) f_Even_shows f_Unlike_shows) [.sh (dM xss), .sh ans, .sh x2, .dead, .dead] ans = some (.bl a) := elD_un1 (by rw [show ((wipeR [.sh (dM xss), .sh ans, .sh x2, .dead, .dead] [4]).set 4 (.sh ans)) = [.sh (dM xss), .sh ans, .sh x2, .dead, .sh ans] from rfl, e1]; rfl)
  have q2 : elD [4] un1 [4] (eShows (eVar 4) (aCons (eVar 0) (aNil)) f_Even_shows f_Unlike_shows) [.sh (dM xss), .sh ans, .sh x2, .dead, .dead] (.even (.int 15)) = some (.bl (evenB xss n 15)) := elD_un1 (by rw [show ((wipeR [.sh (dM xss), .sh ans, .sh x2, .dead, .dead] [4]).set 4 (.sh (.even (.int 15)))) = [.sh (dM xss), .sh ans, .sh x2, .dead, .sh (.even (.int 15))] from rfl, e2]; rfl)
  have q3 : elD [4] un1 [4] (eShows (eVar 4) (aCons (eVar 0) (aNil)) f_Even_shows f_Unlike_shows) [.sh (dM xss), .sh ans, .sh x2, .dead, .dead] (.unl (lnD (.row 0)) (lnD (.col 0))) = some (.bl (unlB xss n (.row 0) (.col 0))) := elD_un1 (by rw [show ((wipeR [.sh (dM xss), .sh ans, .sh x2, .dead, .dead] [4]).set 4 (.sh (.unl (lnD (.row 0)) (lnD (.col 0))))) = [.sh (dM xss), .sh ans, .sh x2, .dead, .sh (.unl (lnD (.row 0)) (lnD (.col 0)))] from rfl, e3]; rfl)
  have hm : mapO (elD [4] un1 [4] (eShows (eVar 4) (aCons (eVar 0) (aNil)) f_Even_shows f_Unlike_shows) [.sh (dM xss), .sh ans, .sh x2, .dead, .dead]) [ans, .even (.int 15), .unl (lnD (.row 0)) (lnD (.col 0))] = some [.bl a, .bl (evenB xss n 15), .bl (unlB xss n (.row 0) (.col 0))] := by
    unfold mapO; rw [q1]; unfold mapO; rw [q2]; unfold mapO; rw [q3]; rfl
  dsimp only
  rw [if_pos (by simp : [ans, Da.even (.int 15), .unl (lnD (.row 0)) (lnD (.col 0))].length ≤ 1000000), hm]
theorem ev_square_right (h : Sq xss n) (h0 : 0 < n) (h1 : n ≤ 10000) : f__law_square_right [dM xss] = .ok (.sh (.bl true)) := by
  have ht := ev_turned (f := ent xss) h0 h1 (w := 3) (by decide)
  have ho := ev_other_way (f := ent xss) h0 h1
  rw [← h.tb] at ht ho
  have ht : f_turned [dM xss, .int 3] = .ok (.ow2 (dD (tb n n (turnF n (ent xss) 3)))) := ht
  have p1 : plD 5 (dM (tb n n (turnF n (ent xss) 3))) = true := pl_dM tb_sq h1
  have p2 : plD 5 (dM (tb n n fun r c => (n : Int) * n + 1 - ent xss r c)) = true := pl_dM tb_sq h1
  generalize tb n n (turnF n (ent xss) 3) = A at ht p1
  generalize tb n n (fun r c => (n : Int) * n + 1 - ent xss r c) = B at ho p2
  have kT : ∀ t : Int, kTotal (.even (.int t)) = some (.sh (.int t)) := fun _ => rfl
  rcases ev_told h h0 h1 with ⟨_, q⟩ | ⟨l, _, _, q⟩
  · generalize lsum xss n (.row 0) = t at q
    obtain ⟨a, b, c, hs⟩ := shown (ans := .even (.int t)) (x2 := .lst [.int t, dM A, dM B]) h h0 h1 (.inl ⟨t, rfl⟩)
    have kI : kIsC true false (.even (.int t)) = some (.sh (.bl true)) := rfl
    have ka : kAdd (.lst [.int t]) (.lst [dM A, dM B]) = some (.ow [.int t, dM A, dM B]) := rfl
    have hp : f__law_plain 6 [.lst [.int t, dM A, dM B]] = .ok (.sh (.bl true)) := ev_plain 6 _ (by
      show (decide (3 ≤ 1000000) && (plD 5 (.int t) && (plD 5 (dM A) && (plD 5 (dM B) && true)))) = true
      rw [p1, p2]; rfl)
    have ht3 : ∀ a b c : Bool, f__law_truths [.lst [.bl a, .bl b, .bl c]] = .ok (.sh (.bl true)) := fun a b c => ev_truths
    simp only [f__law_square_right, g__law_square_right, sSeq_e, then_nx, then_rt, then_ex, fin_ok, fin_ex, sSet_e, sOwn_e, sRet_e, sExpr_e, sRetVar_e, retN_sh, retN_ow, retN_ow2, sIf_e, selS_t, selS_f, selE_t, selE_f, stf_f, stf_t, bind_ok, bind_ex, dat_sh, dat_ow, dat_ow2, dat_ex, ofO_some, eVar_e, eOp_e, eUn_e, eIf_e, fB_e, dB_bl, fAnd_e, fOr_e, andT_t, andT_f, andT_x, orT_t, orT_f, orT_x, fNot_e, eAnd_e, eOr_e, andE_t, andE_f, orE_t, orE_f, eNot_e, dN_bl, eCh_e, chN_t, chN_f, eCh3_e, chN2_t, chN2_f, aCons_e, aNil_e, eLst_e, eTup_e, eCall_e, eFn_e, eC_e, sTgt_e, tgtN_some, sPar_e, parN_e, sRaise_e, sNil_e, eTab_e, tabN_e, eIndexT_e, idxN_e, endS_rt, endS_nx, endS_ex, view_sh, view_ow, view_ow2, shs_cons, shs_nil, shO_sh, shO_dead, shO_ow, shO_ow2, setR_c, setR_n, un1_e, unT_e, oNone_e, oSome_e, dI_int, fDef, List.append_nil, List.nil_append, List.cons_append, List.replicate_succ, List.replicate_zero, List.length_cons, List.length_nil, List.set_cons_zero, List.set_cons_succ, List.getElem?_cons_zero, List.getElem?_cons_succ, Nat.sub_zero, Nat.reduceSub, Nat.reduceAdd, Nat.reduceLeDiff, if_true, if_false, ite_true, ite_false, Bool.false_eq_true, decide_true, decide_false, Bool.not_true, Bool.not_false, kSub_int, kAdd_int, kLt_int, kLe_int, kGt_int, kGe_int, kEq_int, kNe_int, kMod_int, kEq_pair, kNe_pair, Bool.and_true, Bool.and_false, Bool.true_and, Bool.false_and, lst_dD, List.map_cons, List.map_nil, q, kI, kT, ht, ho, ka, hs, hp, ht3]
  · obtain ⟨a, b, c, hs⟩ := shown (ans := .unl (lnD (.row 0)) (lnD l)) (x2 := .lst [lnD (.row 0), lnD l, dM A, dM B]) h h0 h1 (.inr ⟨_, _, rfl⟩)
    have kI : kIsC true false (.unl (lnD (.row 0)) (lnD l)) = some (.sh (.bl false)) := rfl
    have k1 : kOne (.unl (lnD (.row 0)) (lnD l)) = some (.sh (lnD (.row 0))) := rfl
    have k2 : kOther (.unl (lnD (.row 0)) (lnD l)) = some (.sh (lnD l)) := rfl
    have ka : kAdd (.lst [lnD (.row 0), lnD l]) (.lst [dM A, dM B]) = some (.ow [lnD (.row 0), lnD l, dM A, dM B]) := rfl
    have hp : f__law_plain 6 [.lst [lnD (.row 0), lnD l, dM A, dM B]] = .ok (.sh (.bl true)) := ev_plain 6 _ (by
      show (decide (4 ≤ 1000000) && (plD 5 (lnD (.row 0)) && (plD 5 (lnD l) && (plD 5 (dM A) && (plD 5 (dM B) && true))))) = true
      rw [p1, p2, pl_ln, pl_ln]; rfl)
    have ht3 : ∀ a b c : Bool, f__law_truths [.lst [.bl a, .bl b, .bl c]] = .ok (.sh (.bl true)) := fun a b c => ev_truths
    simp only [f__law_square_right, g__law_square_right, sSeq_e, then_nx, then_rt, then_ex, fin_ok, fin_ex, sSet_e, sOwn_e, sRet_e, sExpr_e, sRetVar_e, retN_sh, retN_ow, retN_ow2, sIf_e, selS_t, selS_f, selE_t, selE_f, stf_f, stf_t, bind_ok, bind_ex, dat_sh, dat_ow, dat_ow2, dat_ex, ofO_some, eVar_e, eOp_e, eUn_e, eIf_e, fB_e, dB_bl, fAnd_e, fOr_e, andT_t, andT_f, andT_x, orT_t, orT_f, orT_x, fNot_e, eAnd_e, eOr_e, andE_t, andE_f, orE_t, orE_f, eNot_e, dN_bl, eCh_e, chN_t, chN_f, eCh3_e, chN2_t, chN2_f, aCons_e, aNil_e, eLst_e, eTup_e, eCall_e, eFn_e, eC_e, sTgt_e, tgtN_some, sPar_e, parN_e, sRaise_e, sNil_e, eTab_e, tabN_e, eIndexT_e, idxN_e, endS_rt, endS_nx, endS_ex, view_sh, view_ow, view_ow2, shs_cons, shs_nil, shO_sh, shO_dead, shO_ow, shO_ow2, setR_c, setR_n, un1_e, unT_e, oNone_e, oSome_e, dI_int, fDef, List.append_nil, List.nil_append, List.cons_append, List.replicate_succ, List.replicate_zero, List.length_cons, List.length_nil, List.set_cons_zero, List.set_cons_succ, List.getElem?_cons_zero, List.getElem?_cons_succ, Nat.sub_zero, Nat.reduceSub, Nat.reduceAdd, Nat.reduceLeDiff, if_true, if_false, ite_true, ite_false, Bool.false_eq_true, decide_true, decide_false, Bool.not_true, Bool.not_false, kSub_int, kAdd_int, kLt_int, kLe_int, kGt_int, kGe_int, kEq_int, kNe_int, kMod_int, kEq_pair, kNe_pair, Bool.and_true, Bool.and_false, Bool.true_and, Bool.false_and, lst_dD, List.map_cons, List.map_nil, q, kI, k1, k2, ht, ho, ka, hs, hp, ht3]
end
end K08

namespace K08
open PySem PySem.Spec PyProof.Rows L2 G6 EvM
theorem kAbs_int {i : Int} : kAbs [.int i] = some (.sh (.int (if i < 0 then -i else i))) := rfl
theorem Bt.abs {k : Nat} {i : Int} (h : Bt k i) : Bt k (if i < 0 then -i else i) := by
  unfold Bt at *
  split <;> omega
theorem row_in {k : Nat} (hk : k < 3) : Ln.row k ∈ lns 3 := by
  unfold lns
  exact List.mem_append_left _ (List.mem_append_left _ (List.mem_map.mpr ⟨k, List.mem_range.mpr hk, rfl⟩))
theorem ev_three {a b c : Int} : f_three [.int a, .int b, .int c] = .ok (.ow ((three a b c).map fun r => Da.lst (r.map .int))) := by
  have i1 : ∀ z : Int, f_is_number [.int z] = .ok (.sh (.bl true)) := fun _ => rfl
  simp only [f_three, g_three, sSeq_e, then_nx, then_rt, then_ex, fin_ok, fin_ex, sSet_e, sOwn_e, sRet_e, sExpr_e, sRetVar_e, retN_sh, retN_ow, retN_ow2, sIf_e, selS_t, selS_f, selE_t, selE_f, stf_f, stf_t, bind_ok, bind_ex, dat_sh, dat_ow, dat_ow2, dat_ex, ofO_some, eVar_e, eOp_e, eUn_e, eIf_e, fB_e, dB_bl, fAnd_e, fOr_e, andT_t, andT_f, andT_x, orT_t, orT_f, orT_x, fNot_e, eAnd_e, eOr_e, andE_t, andE_f, orE_t, orE_f, eNot_e, dN_bl, eCh_e, chN_t, chN_f, eCh3_e, chN2_t, chN2_f, aCons_e, aNil_e, eLst_e, eTup_e, eCall_e, eFn_e, eC_e, sTgt_e, tgtN_some, sPar_e, parN_e, sRaise_e, sNil_e, eTab_e, tabN_e, eIndexT_e, idxN_e, endS_rt, endS_nx, endS_ex, view_sh, view_ow, view_ow2, shs_cons, shs_nil, shO_sh, shO_dead, shO_ow, shO_ow2, setR_c, setR_n, un1_e, unT_e, oNone_e, oSome_e, dI_int, fDef, List.append_nil, List.nil_append, List.cons_append, List.replicate_succ, List.replicate_zero, List.length_cons, List.length_nil, List.set_cons_zero, List.set_cons_succ, List.getElem?_cons_zero, List.getElem?_cons_succ, Nat.sub_zero, Nat.reduceSub, Nat.reduceAdd, Nat.reduceLeDiff, if_true, if_false, ite_true, ite_false, Bool.false_eq_true, decide_true, decide_false, Bool.not_true, Bool.not_false, kSub_int, kAdd_int, kLt_int, kLe_int, kGt_int, kGe_int, kEq_int, kNe_int, kMod_int, kEq_pair, kNe_pair, Bool.and_true, Bool.and_false, Bool.true_and, Bool.false_and, List.map_cons, List.map_nil, i1]
  rfl
theorem ev_parts {a b c : Int} : f_parts [.lst ((three a b c).map fun r => Da.lst (r.map .int))] = .ok (.sh (.tup [.int a, .int b, .int c])) := by
  have sq := three_sq (a := a) (b := b) (c := c)
  have ha := ev_asked_square sq (by decide) (by decide)
  obtain ⟨s, ht⟩ : ∃ s, f_told [dM (three a b c)] = .ok (.sh (.even (.int s))) := by
    have E := ev3_three (a := a) (b := b) (c := c)
    have hs := ev3_sum E
    rw [← sq.tb] at hs
    exact ⟨_, told_even sq (by decide) (by decide) hs⟩
  have kI : kIsC true false (.even (.int s)) = some (.sh (.bl true)) := rfl
  have kl : kLen [dM (three a b c)] = some (.sh (.int 3)) := rfl
  have i1 : kIx (dM (three a b c)) (.int 1) = some (.sh (.lst [.int (a - b + c), .int a, .int (a + b - c)])) := rfl
  have i0 : kIx (dM (three a b c)) (.int 0) = some (.sh (.lst [.int (a + b), .int (a - b - c), .int (a + c)])) := rfl
  have j1 : kIx (.lst [.int (a - b + c), .int a, .int (a + b - c)]) (.int 1) = some (.sh (.int a)) := rfl
  have j0 : kIx (.lst [.int (a + b), .int (a - b - c), .int (a + c)]) (.int 0) = some (.sh (.int (a + b))) := rfl
  have j2 : kIx (.lst [.int (a + b), .int (a - b - c), .int (a + c)]) (.int 2) = some (.sh (.int (a + c))) := rfl
  have e3 : ((3 : Int) == 3) = true := rfl
  have e1 : a + b - a = b := by omega
  have e2 : a + c - a = c := by omega
  show f_parts [dM (three a b c)] = _
  simp only [f_parts, g_parts, sSeq_e, then_nx, then_rt, then_ex, fin_ok, fin_ex, sSet_e, sOwn_e, sRet_e, sExpr_e, sRetVar_e, retN_sh, retN_ow, retN_ow2, sIf_e, selS_t, selS_f, selE_t, selE_f, stf_f, stf_t, bind_ok, bind_ex, dat_sh, dat_ow, dat_ow2, dat_ex, ofO_some, eVar_e, eOp_e, eUn_e, eIf_e, fB_e, dB_bl, fAnd_e, fOr_e, andT_t, andT_f, andT_x, orT_t, orT_f, orT_x, fNot_e, eAnd_e, eOr_e, andE_t, andE_f, orE_t, orE_f, eNot_e, dN_bl, eCh_e, chN_t, chN_f, eCh3_e, chN2_t, chN2_f, aCons_e, aNil_e, eLst_e, eTup_e, eCall_e, eFn_e, eC_e, sTgt_e, tgtN_some, sPar_e, parN_e, sRaise_e, sNil_e, eTab_e, tabN_e, eIndexT_e, idxN_e, endS_rt, endS_nx, endS_ex, view_sh, view_ow, view_ow2, shs_cons, shs_nil, shO_sh, shO_dead, shO_ow, shO_ow2, setR_c, setR_n, un1_e, unT_e, oNone_e, oSome_e, dI_int, fDef, List.append_nil, List.nil_append, List.cons_append, List.replicate_succ, List.replicate_zero, List.length_cons, List.length_nil, List.set_cons_zero, List.set_cons_succ, List.getElem?_cons_zero, List.getElem?_cons_succ, Nat.sub_zero, Nat.reduceSub, Nat.reduceAdd, Nat.reduceLeDiff, if_true, if_false, ite_true, ite_false, Bool.false_eq_true, decide_true, decide_false, Bool.not_true, Bool.not_false, kSub_int, kAdd_int, kLt_int, kLe_int, kGt_int, kGe_int, kEq_int, kNe_int, kMod_int, kEq_pair, kNe_pair, Bool.and_true, Bool.and_false, Bool.true_and, Bool.false_and, List.map_cons, List.map_nil, ha, kl, e3, ht, kI, i1, i0, j1, j0, j2, e1, e2]
/-! ### the drawn rows -/
def numZ (c a m : Int) : Int := match f__law_number [.int c, .int a, .int m] with
  | .ok (.sh (.int z)) => z
  | _ => 0
theorem numZ_eq {c a m : Int} (hc : Bt 1048600 c) (a0 : 0 ≤ a) (a1 : a ≤ 1000) : f__law_number [.int c, .int a, .int m] = .ok (.sh (.int (numZ c a m))) := by
  obtain ⟨z, hz⟩ := ev_number (m := m) hc a0 a1
  unfold numZ
  rw [hz]
def cellZ (m r : Int) (k c : Int) : Int := (if numZ c (k + r) m < 0 then -numZ c (k + r) m else numZ c (k + r) m) / 3 % 9
def cellD (m r : Int) : Da → Da
  | .tup [.int k, .int c] => .int (cellZ m r k c)
  | d => d
def ROW : Sem1 := (eLc (iEnum (aCons (eVar 7) (aNil))) [10, 11] unT [10, 11] (eOp kMod (eOp kDiv (eCall kAbs (aCons (eFn f__law_number (aCons (eVar 11) (aCons (eOp kAdd (eVar 10) (eVar 8)) (aCons (eVar 1) (aNil))))) (aNil))) (eC (.int 3))) (eC (.int 9))))
section
variable {x0 x2 x3 x4 x5 x6 : Sl} {M r : Int}
theorem cell_ok {d7 : Da} {k c : Int} (hc : Bt 1048600 c) (k0 : 0 ≤ k) (k1 : k ≤ 10) (r0 : 0 ≤ r) (r1 : r ≤ 10) : elD [10, 11] unT [10, 11] (eOp kMod (eOp kDiv (eCall kAbs (aCons (eFn f__law_number (aCons (eVar 11) (aCons (eOp kAdd (eVar 10) (eVar 8)) (aCons (eVar 1) (aNil))))) (aNil))) (eC (.int 3))) (eC (.int 9))) [x0, .sh (.int M), x2, x3, x4, x5, x6, .sh d7, .sh (.int r), .dead, .dead, .dead] (.tup [.int k, .int c]) = some (.int (cellZ M r k c)) := by
  refine elD_pair ?_
  have d3 : ∀ x, divOk x 3 = true := fun x => divOk_s (by omega) (by omega)
  have hn := numZ_eq (m := M) (a := k + r) hc (by omega) (by omega)
  simp (disch := omega) only [wipeR, sSeq_e, then_nx, then_rt, then_ex, fin_ok, fin_ex, sSet_e, sOwn_e, sRet_e, sExpr_e, sRetVar_e, retN_sh, retN_ow, retN_ow2, sIf_e, selS_t, selS_f, selE_t, selE_f, stf_f, stf_t, bind_ok, bind_ex, dat_sh, dat_ow, dat_ow2, dat_ex, ofO_some, eVar_e, eOp_e, eUn_e, eIf_e, fB_e, dB_bl, fAnd_e, fOr_e, andT_t, andT_f, andT_x, orT_t, orT_f, orT_x, fNot_e, eAnd_e, eOr_e, andE_t, andE_f, orE_t, orE_f, eNot_e, dN_bl, eCh_e, chN_t, chN_f, eCh3_e, chN2_t, chN2_f, aCons_e, aNil_e, eLst_e, eTup_e, eCall_e, eFn_e, eC_e, sTgt_e, tgtN_some, sPar_e, parN_e, sRaise_e, sNil_e, eTab_e, tabN_e, eIndexT_e, idxN_e, endS_rt, endS_nx, endS_ex, view_sh, view_ow, view_ow2, shs_cons, shs_nil, shO_sh, shO_dead, shO_ow, shO_ow2, setR_c, setR_n, un1_e, unT_e, oNone_e, oSome_e, dI_int, fDef, List.append_nil, List.nil_append, List.cons_append, List.replicate_succ, List.replicate_zero, List.length_cons, List.length_nil, List.set_cons_zero, List.set_cons_succ, List.getElem?_cons_zero, List.getElem?_cons_succ, Nat.sub_zero, Nat.reduceSub, Nat.reduceAdd, Nat.reduceLeDiff, if_true, if_false, ite_true, ite_false, Bool.false_eq_true, decide_true, decide_false, Bool.not_true, Bool.not_false, kSub_int, kAdd_int, kLt_int, kLe_int, kGt_int, kGe_int, kEq_int, kNe_int, kMod_int, kEq_pair, kNe_pair, Bool.and_true, Bool.and_false, Bool.true_and, Bool.false_and, hn, kAbs_int, (fun x => kDiv_int (d3 x)), cellZ]
theorem row_ok {ss : List Int} (s0 : 0 < ss.length) (s3 : ss.length ≤ 3) (hb : ∀ z ∈ ss, Bt 1048600 z) (r0 : 0 ≤ r) (r1 : r ≤ 10) : ∃ row : List Int, row.length = ss.length ∧ ROW [x0, .sh (.int M), x2, x3, x4, x5, x6, .sh (.lst (ss.map .int)), .sh (.int r), .dead, .dead, .dead] = .ok (.ow (row.map .int)) := by
  match ss, s0, s3, hb with
  | [a], _, _, hb =>
    refine ⟨[cellZ M r 0 a], rfl, ?_⟩
    refine eLc_ok (items := [.tup [.int 0, .int a]]) (cellD M r) rfl (by simp) fun d hd => ?_
    simp only [List.mem_cons, List.not_mem_nil, or_false] at hd
    subst hd
    exact cell_ok (hb a (by simp)) (by omega) (by omega) r0 r1
  | [a, b], _, _, hb =>
    refine ⟨[cellZ M r 0 a, cellZ M r 1 b], rfl, ?_⟩
    refine eLc_ok (items := [.tup [.int 0, .int a], .tup [.int 1, .int b]]) (cellD M r) rfl (by simp) fun d hd => ?_
    simp only [List.mem_cons, List.not_mem_nil, or_false] at hd
    rcases hd with rfl | rfl
    · exact cell_ok (hb a (by simp)) (by omega) (by omega) r0 r1
    · exact cell_ok (hb b (by simp)) (by omega) (by omega) r0 r1
  | [a, b, c], _, _, hb =>
    refine ⟨[cellZ M r 0 a, cellZ M r 1 b, cellZ M r 2 c], rfl, ?_⟩
    refine eLc_ok (items := [.tup [.int 0, .int a], .tup [.int 1, .int b], .tup [.int 2, .int c]]) (cellD M r) rfl (by simp) fun d hd => ?_
    simp only [List.mem_cons, List.not_mem_nil, or_false] at hd
    rcases hd with rfl | rfl | rfl
    · exact cell_ok (hb a (by simp)) (by omega) (by omega) r0 r1
    · exact cell_ok (hb b (by simp)) (by omega) (by omega) r0 r1
    · exact cell_ok (hb c (by simp)) (by omega) (by omega) r0 r1
theorem rows_ok {d0 d2 d3 d4 d5 : Da} {ss : List Int} (s0 : 0 < ss.length) (s3 : ss.length ≤ 3) (hb : ∀ z ∈ ss, Bt 1048600 z) : ∀ (k : Nat) {x8 : Sl} (pre : List (List Int)) (b : Nat), b + k ≤ 6 → pre.length + k ≤ 10 → (∀ r ∈ pre, r.length = ss.length) → ∃ (post : List (List Int)) (y8 : Sl), loopF [8] un1 (sApp 6 false ROW) ((List.range' b k).map fun (i : Nat) => Da.int (i : Int)) [.sh d0, .sh (.int M), .sh d2, .sh d3, .sh d4, .sh d5, .ow (pre.map fun r => Da.lst (r.map .int)), .sh (.lst (ss.map .int)), x8, .dead, .dead, .dead] = .nx [.sh d0, .sh (.int M), .sh d2, .sh d3, .sh d4, .sh d5, .ow (post.map fun r => Da.lst (r.map .int)), .sh (.lst (ss.map .int)), y8, .dead, .dead, .dead] ∧ post.length = pre.length + k ∧ ∀ r ∈ post, r.length = ss.length
  | 0, x8, pre, b, _, _, hp => ⟨pre, x8, rfl, rfl, hp⟩
  | k + 1, x8, pre, b, hbk, hpl, hp => by
    obtain ⟨row, l1, h1⟩ := row_ok (x0 := .sh d0) (x2 := .sh d2) (x3 := .sh d3) (x4 := .sh d4) (x5 := .sh d5) (x6 := .dead) (M := M) (r := (b : Int)) s0 s3 hb (by omega) (by omega)
    obtain ⟨post, y8, w1, w2, w3⟩ := rows_ok (d0 := d0) (d2 := d2) (d3 := d3) (d4 := d4) (d5 := d5) s0 s3 hb k (x8 := .sh (.int (b : Int))) (pre ++ [row]) (b + 1) (by omega) (by rw [List.length_append, List.length_cons, List.length_nil]; omega) (fun r hr => by
      rcases List.mem_append.mp hr with z | z
      · exact hp r z
      · simp only [List.mem_cons, List.not_mem_nil, or_false] at z
        rw [z, l1])
    refine ⟨post, y8, ?_, by rw [w2, List.length_append, List.length_cons, List.length_nil]; omega, w3⟩
    rw [List.range'_succ, List.map_cons, loop_un1]
    have ha : sApp 6 false ROW [.sh d0, .sh (.int M), .sh d2, .sh d3, .sh d4, .sh d5, .ow (pre.map fun r => Da.lst (r.map .int)), .sh (.lst (ss.map .int)), .sh (.int (b : Int)), .dead, .dead, .dead] = .nx [.sh d0, .sh (.int M), .sh d2, .sh d3, .sh d4, .sh d5, .ow ((pre ++ [row]).map fun r => Da.lst (r.map .int)), .sh (.lst (ss.map .int)), .sh (.int (b : Int)), .dead, .dead, .dead] := by
      rw [sApp_ok (xs := pre.map fun r => Da.lst (r.map .int)) (d := .lst (row.map .int)) rfl (by rw [List.length_map]; omega) (by
        rw [stf_f]
        refine Eq.trans (congrArg dat ?_) (dat_ow (xs := row.map .int))
        exact h1), List.map_append]
      rfl
    simp only [List.set_cons_zero, List.set_cons_succ]
    rw [ha, loopN_nx]
    exact w1
end
/-! ### the made squares -/
theorem big_nat {n : Nat} (h0 : 0 < n) (h : n ≤ 10000) : Big (n : Int) := ⟨by omega, by omega⟩
theorem ev_made {n : Nat} (h0 : 0 < n) (h1 : n ≤ 40) (h2 : n ≠ 2) : f_made [.int (n : Int)] = .ok (.ow2 (dD (tb n n fun r c => num n r c))) := by
  have hb := big_nat h0 (by omega)
  have inner : ∀ r : Nat, r < n → eLc (iR1 (aCons (eVar 0) (aNil))) [2] un1 [2] (eFn f_number_of (aCons (eVar 0) (aCons (eVar 1) (aCons (eVar 2) (aNil))))) [.sh (.int (n : Int)), .sh (.int (r : Int)), .dead] = .ok (.ow ((List.range n).map fun (c : Nat) => Da.int (num n r c))) := by
    intro r hr
    have := eLc_ok (fI := iR1 (aCons (eVar 0) (aNil))) (is := [2]) (un := un1) (vs := [2]) (fe := eFn f_number_of (aCons (eVar 0) (aCons (eVar 1) (aCons (eVar 2) (aNil))))) (ρ := [.sh (.int (n : Int)), .sh (.int (r : Int)), .dead]) (items := (List.range n).map fun (k : Nat) => Da.int (k : Int))
      (fun d => match d with | .int c => .int (num n r c) | _ => .non) (by simp only [iR1_e, rN_int, rangeN_nat (show n ≤ 1000000 by omega), sSeq_e, then_nx, then_rt, then_ex, fin_ok, fin_ex, sSet_e, sOwn_e, sRet_e, sExpr_e, sRetVar_e, retN_sh, retN_ow, retN_ow2, sIf_e, selS_t, selS_f, selE_t, selE_f, stf_f, stf_t, bind_ok, bind_ex, dat_sh, dat_ow, dat_ow2, dat_ex, ofO_some, eVar_e, eOp_e, eUn_e, eIf_e, fB_e, dB_bl, fAnd_e, fOr_e, andT_t, andT_f, andT_x, orT_t, orT_f, orT_x, fNot_e, eAnd_e, eOr_e, andE_t, andE_f, orE_t, orE_f, eNot_e, dN_bl, eCh_e, chN_t, chN_f, eCh3_e, chN2_t, chN2_f, aCons_e, aNil_e, eLst_e, eTup_e, eCall_e, eFn_e, eC_e, sTgt_e, tgtN_some, sPar_e, parN_e, sRaise_e, sNil_e, eTab_e, tabN_e, eIndexT_e, idxN_e, endS_rt, endS_nx, endS_ex, view_sh, view_ow, view_ow2, shs_cons, shs_nil, shO_sh, shO_dead, shO_ow, shO_ow2, setR_c, setR_n, un1_e, unT_e, oNone_e, oSome_e, dI_int, fDef, List.append_nil, List.nil_append, List.cons_append, List.replicate_succ, List.replicate_zero, List.length_cons, List.length_nil, List.set_cons_zero, List.set_cons_succ, List.getElem?_cons_zero, List.getElem?_cons_succ, Nat.sub_zero, Nat.reduceSub, Nat.reduceAdd, Nat.reduceLeDiff, if_true, if_false, ite_true, ite_false, Bool.false_eq_true, decide_true, decide_false, Bool.not_true, Bool.not_false, kSub_int, kAdd_int, kLt_int, kLe_int, kGt_int, kGe_int, kEq_int, kNe_int, kMod_int, kEq_pair, kNe_pair, Bool.and_true, Bool.and_false, Bool.true_and, Bool.false_and]) (by simp; omega) (fun d hd => elD_un1 (by
        obtain ⟨c, hc, rfl⟩ := List.mem_map.mp hd
        have hc := List.mem_range.mp hc
        simp only [wipeR, sSeq_e, then_nx, then_rt, then_ex, fin_ok, fin_ex, sSet_e, sOwn_e, sRet_e, sExpr_e, sRetVar_e, retN_sh, retN_ow, retN_ow2, sIf_e, selS_t, selS_f, selE_t, selE_f, stf_f, stf_t, bind_ok, bind_ex, dat_sh, dat_ow, dat_ow2, dat_ex, ofO_some, eVar_e, eOp_e, eUn_e, eIf_e, fB_e, dB_bl, fAnd_e, fOr_e, andT_t, andT_f, andT_x, orT_t, orT_f, orT_x, fNot_e, eAnd_e, eOr_e, andE_t, andE_f, orE_t, orE_f, eNot_e, dN_bl, eCh_e, chN_t, chN_f, eCh3_e, chN2_t, chN2_f, aCons_e, aNil_e, eLst_e, eTup_e, eCall_e, eFn_e, eC_e, sTgt_e, tgtN_some, sPar_e, parN_e, sRaise_e, sNil_e, eTab_e, tabN_e, eIndexT_e, idxN_e, endS_rt, endS_nx, endS_ex, view_sh, view_ow, view_ow2, shs_cons, shs_nil, shO_sh, shO_dead, shO_ow, shO_ow2, setR_c, setR_n, un1_e, unT_e, oNone_e, oSome_e, dI_int, fDef, List.map_cons, List.map_nil, List.append_nil, List.nil_append, List.cons_append, List.replicate_succ, List.replicate_zero, List.length_cons, List.length_nil, List.set_cons_zero, List.set_cons_succ, List.getElem?_cons_zero, List.getElem?_cons_succ, Nat.sub_zero, Nat.reduceSub, Nat.reduceAdd, Nat.reduceLeDiff, if_true, if_false, ite_true, ite_false, Bool.false_eq_true, decide_true, decide_false, Bool.not_true, Bool.not_false, kSub_int, kAdd_int, kLt_int, kLe_int, kGt_int, kGe_int, kEq_int, kNe_int, kMod_int, kEq_pair, kNe_pair, Bool.and_true, Bool.and_false, Bool.true_and, Bool.false_and, ev_number_of hb (show (0 : Int) ≤ r ∧ (r : Int) < n by omega) (show (0 : Int) ≤ c ∧ (c : Int) < n by omega)]))
    rw [this, List.map_map]
    rfl
  have outer : eLc2 (iR1 (aCons (eVar 0) (aNil))) [1] un1 [1] (eLc (iR1 (aCons (eVar 0) (aNil))) [2] un1 [2] (eFn f_number_of (aCons (eVar 0) (aCons (eVar 1) (aCons (eVar 2) (aNil)))))) [.sh (.int (n : Int)), .dead, .dead] = .ok (.ow2 (dD (tb n n fun r c => num n r c))) := by
    have := eLc2_ok (fI := iR1 (aCons (eVar 0) (aNil))) (is := [1]) (un := un1) (vs := [1]) (fe := (eLc (iR1 (aCons (eVar 0) (aNil))) [2] un1 [2] (eFn f_number_of (aCons (eVar 0) (aCons (eVar 1) (aCons (eVar 2) (aNil))))))) (ρ := [.sh (.int (n : Int)), .dead, .dead]) (items := (List.range n).map fun (k : Nat) => Da.int (k : Int))
      (fun d => match d with | .int r => (List.range n).map fun (c : Nat) => Da.int (num n r c) | _ => []) (by simp only [iR1_e, rN_int, rangeN_nat (show n ≤ 1000000 by omega), sSeq_e, then_nx, then_rt, then_ex, fin_ok, fin_ex, sSet_e, sOwn_e, sRet_e, sExpr_e, sRetVar_e, retN_sh, retN_ow, retN_ow2, sIf_e, selS_t, selS_f, selE_t, selE_f, stf_f, stf_t, bind_ok, bind_ex, dat_sh, dat_ow, dat_ow2, dat_ex, ofO_some, eVar_e, eOp_e, eUn_e, eIf_e, fB_e, dB_bl, fAnd_e, fOr_e, andT_t, andT_f, andT_x, orT_t, orT_f, orT_x, fNot_e, eAnd_e, eOr_e, andE_t, andE_f, orE_t, orE_f, eNot_e, dN_bl, eCh_e, chN_t, chN_f, eCh3_e, chN2_t, chN2_f, aCons_e, aNil_e, eLst_e, eTup_e, eCall_e, eFn_e, eC_e, sTgt_e, tgtN_some, sPar_e, parN_e, sRaise_e, sNil_e, eTab_e, tabN_e, eIndexT_e, idxN_e, endS_rt, endS_nx, endS_ex, view_sh, view_ow, view_ow2, shs_cons, shs_nil, shO_sh, shO_dead, shO_ow, shO_ow2, setR_c, setR_n, un1_e, unT_e, oNone_e, oSome_e, dI_int, fDef, List.append_nil, List.nil_append, List.cons_append, List.replicate_succ, List.replicate_zero, List.length_cons, List.length_nil, List.set_cons_zero, List.set_cons_succ, List.getElem?_cons_zero, List.getElem?_cons_succ, Nat.sub_zero, Nat.reduceSub, Nat.reduceAdd, Nat.reduceLeDiff, if_true, if_false, ite_true, ite_false, Bool.false_eq_true, decide_true, decide_false, Bool.not_true, Bool.not_false, kSub_int, kAdd_int, kLt_int, kLe_int, kGt_int, kGe_int, kEq_int, kNe_int, kMod_int, kEq_pair, kNe_pair, Bool.and_true, Bool.and_false, Bool.true_and, Bool.false_and]) (by simp; omega) (fun d hd => elO_un1 (by
        obtain ⟨r, hr, rfl⟩ := List.mem_map.mp hd
        have hr := List.mem_range.mp hr
        simp only [wipeR, List.set_cons_zero, List.set_cons_succ]
        exact inner r hr))
    rw [this, List.map_map]
    rw [dD_tb]
    rfl
  have hgt : ¬ ((40 : Int) < n) := by omega
  simp only [f_made, g_made, fDef, endS_rt, List.map_cons, List.map_nil, List.length_cons, List.length_nil, Nat.reduceAdd, Nat.reduceSub, List.replicate_succ, List.replicate_zero, List.cons_append, List.nil_append, sSeq_e, sExpr_e, sIf_e, sRet_e, stf_f, shs_cons, shs_nil, shO_sh, shO_dead, eFn_e, aCons_e, aNil_e, eVar_e, List.getElem?_cons_zero, view_sh, dat_sh, bind_ok, ev_asked_order (show (1 : Int) ≤ n by omega) (show (n : Int) ≠ 2 by omega), fin_ok, then_nx, fB_e, eOp_e, eC_e, kGt_int, decide_eq_false hgt, ofO_some, dB_bl, selS_f, sNil_e, outer]
/-! ### the end -/
theorem cut_lenN {α : Type} {xs : List α} {k : Nat} : (cut xs none (some (k : Int))).length = min k xs.length := by
  unfold cut
  rw [HT.sIx_none, HT.sIx_nat, List.drop_zero, Nat.sub_zero, List.length_take]
  omega
theorem sParO_ok {i j : Nat} {f g : Sem1} {ρ : Rho} {xs : List Da} {d : Da} (h1 : f (Rho.shs ρ) = .ok (.ow xs)) (h2 : dat (g (Rho.shs ρ)) = .ok d) : sParO i j f g ρ = .nx ((ρ.set i (.ow xs)).set j (.sh d)) := by
  unfold sParO
  rw [h1, h2]
theorem sFrz_ow {i : Nat} {g : SemS} {ρ : Rho} {xs : List Da} (h : ρ[i]? = some (.ow xs)) : sFrz i g ρ = g (ρ.set i (.sh (.lst xs))) := by
  unfold sFrz frz1
  rw [h]
def CELLS : Sem1 := eIf (fB (eOp kNe (eVar 0) (eLst (aNil)))) (eSl (eVar 0) (oNone) (oSome (eC (.int 9)))) (eLst (aCons (eC (.int 5)) (aNil)))
def ALLR : Sem1 := eCall kAll (aCons (eLc (iL asL (eLst (aCons (eVar 6) (aCons (eFn f_made (aCons (eVar 3) (aNil))) (aCons (eLst (aCons (eLst (aCons (eC (.int 7)) (aNil))) (aNil))) (aCons (eFn f_three (aCons (eVar 1) (aCons (eC (.int 1)) (aCons (eC (.int 3)) (aNil))))) (aNil))))))) [9] un1 [9] (eFn f__law_square_right (aCons (eVar 9) (aNil)))) (aNil))
def BODY : SemS := sApp 6 false ROW
theorem law2_eq : gLaw2 = sSeq (sSet 1 false (eCall kAbs (aCons (eCall kSum (aCons (eSl (eVar 0) (oNone) (oSome (eC (.int 63)))) (aNil))) (aNil))))
    (sSeq (sSet 2 false (CELLS))
    (sSeq (sSet 3 false (eOp kAdd (eC (.int 3)) (eOp kMod (eVar 1) (eC (.int 5)))))
    (sSeq (sSet 4 false (eOp kDiv (eCall kAbs (aCons (eFn f__law_number (aCons (eVar 1) (aCons (eC (.int 3)) (aCons (eC (.int 7)) (aNil))))) (aNil))) (eC (.int 3))))
    (sSeq (sSet 5 false (eLst (aCons (eFn f_total (aCons (eVar 3) (aNil))) (aCons (eFn f_total (aCons (eC (.int 1)) (aNil))) (aCons (eFn f_number_at (aCons (eVar 3) (aCons (eOp kMod (eVar 4) (eVar 3)) (aCons (eC (.int 0)) (aNil))))) (aNil))))))
    (sSeq (sSet 5 false (eOp kAdd (eVar 5) (eLst (aCons (eFn f_place_of (aCons (eVar 3) (aCons (eOp kAdd (eC (.int 1)) (eOp kMod (eVar 4) (eOp kMul (eVar 3) (eVar 3)))) (aNil)))) (aNil)))))
    (sSeq (sSet 5 false (eOp kAdd (eVar 5) (eLst (aCons (eFn f_three (aCons (eVar 1) (aCons (eC (.int 2)) (aCons (eC (.int 5)) (aNil))))) (aCons (eFn f_parts (aCons (eFn f_three (aCons (eVar 1) (aCons (eC (.int 2)) (aCons (eC (.int 5)) (aNil))))) (aNil))) (aCons (eFn f_number_at (aCons (eC (.int 1)) (aCons (eC (.int 0)) (aCons (eC (.int 0)) (aNil))))) (aCons (eFn f_place_of (aCons (eC (.int 1)) (aCons (eC (.int 1)) (aNil)))) (aCons (eFn f_made (aCons (eC (.int 1)) (aNil))) (aNil)))))))))
    (sSeq (sIf (fOr (fNot (fB (eFn (f__law_plain 6) (aCons (eVar 5) (aNil))))) (fNot (fB (eUn (kIsi .tuple) (eFn f_parts (aCons (eFn f_three (aCons (eC (.int 5)) (aCons (eC (.int 1)) (aCons (eC (.int 3)) (aNil))))) (aNil)))))))
    (sRet false (eC (.bl false))) (sNil))
    (sSeq (sIf (fNot (fB (eUn (kIsi .tuple) (eFn f_place_of (aCons (eVar 3) (aCons (eC (.int 1)) (aNil)))))))
    (sRet false (eC (.bl false))) (sNil))
    (sSeq (sParO 6 7 (eLst (aNil)) (eSl (eVar 2) (oNone) (oSome (eC (.int 3)))))
    (sSeq (sFor (iR1 (aCons (eCall kLen (aCons (eVar 7) (aNil))) (aNil))) [8] un1
    BODY)
    (sFrz 6 (sRet false (ALLR))))))))))))) := rfl
theorem ev_cells {ns : List Int} (hb : ∀ z ∈ ns, Bt 1048576 z) {M : Int} : ∃ cs : List Int, 0 < cs.length ∧ (∀ z ∈ cs, Bt 1048576 z) ∧ eIf (fB (eOp kNe (eVar 0) (eLst (aNil)))) (eSl (eVar 0) (oNone) (oSome (eC (.int 9)))) (eLst (aCons (eC (.int 5)) (aNil))) [.sh (.scr ns), .sh (.int M), .dead, .dead, .dead, .dead, .dead, .dead, .dead, .dead, .dead, .dead] = .ok (.ow (cs.map .int)) := by
  have k0 : kNe (.scr ns) (.lst []) = some (.sh (.bl (!decide (ns = [])))) := kNe_ints_nil
  by_cases e : ns = []
  · refine ⟨[5], by decide, fun z hz => ?_, ?_⟩
    · simp only [List.mem_cons, List.not_mem_nil, or_false] at hz
      subst hz
      exact (Bt.small (i := 5) (by omega) (by omega)).mono (by decide)
    · simp only [sSeq_e, then_nx, then_rt, then_ex, fin_ok, fin_ex, sSet_e, sOwn_e, sRet_e, sExpr_e, sRetVar_e, retN_sh, retN_ow, retN_ow2, sIf_e, selS_t, selS_f, selE_t, selE_f, stf_f, stf_t, bind_ok, bind_ex, dat_sh, dat_ow, dat_ow2, dat_ex, ofO_some, eVar_e, eOp_e, eUn_e, eIf_e, fB_e, dB_bl, fAnd_e, fOr_e, andT_t, andT_f, andT_x, orT_t, orT_f, orT_x, fNot_e, eAnd_e, eOr_e, andE_t, andE_f, orE_t, orE_f, eNot_e, dN_bl, eCh_e, chN_t, chN_f, eCh3_e, chN2_t, chN2_f, aCons_e, aNil_e, eLst_e, eTup_e, eCall_e, eFn_e, eC_e, sTgt_e, tgtN_some, sPar_e, parN_e, sRaise_e, sNil_e, eTab_e, tabN_e, eIndexT_e, idxN_e, endS_rt, endS_nx, endS_ex, view_sh, view_ow, view_ow2, shs_cons, shs_nil, shO_sh, shO_dead, shO_ow, shO_ow2, setR_c, setR_n, un1_e, unT_e, oNone_e, oSome_e, dI_int, fDef, List.map_cons, List.map_nil, List.append_nil, List.nil_append, List.cons_append, List.replicate_succ, List.replicate_zero, List.length_cons, List.length_nil, List.set_cons_zero, List.set_cons_succ, List.getElem?_cons_zero, List.getElem?_cons_succ, Nat.sub_zero, Nat.reduceSub, Nat.reduceAdd, Nat.reduceLeDiff, if_true, if_false, ite_true, ite_false, Bool.false_eq_true, decide_true, decide_false, Bool.not_true, Bool.not_false, kSub_int, kAdd_int, kLt_int, kLe_int, kGt_int, kGe_int, kEq_int, kNe_int, kMod_int, kEq_pair, kNe_pair, Bool.and_true, Bool.and_false, Bool.true_and, Bool.false_and, k0, decide_eq_true e]
  · refine ⟨cut ns none (some 9), ?_, fun z hz => hb z (mem_cut hz), ?_⟩
    · have := cut_lenN (xs := ns) (k := 9)
      have h2 : 0 < ns.length := List.length_pos_iff.mpr e
      have h3 : (cut ns none (some 9)).length = min 9 ns.length := this
      omega
    · simp only [sSeq_e, then_nx, then_rt, then_ex, fin_ok, fin_ex, sSet_e, sOwn_e, sRet_e, sExpr_e, sRetVar_e, retN_sh, retN_ow, retN_ow2, sIf_e, selS_t, selS_f, selE_t, selE_f, stf_f, stf_t, bind_ok, bind_ex, dat_sh, dat_ow, dat_ow2, dat_ex, ofO_some, eVar_e, eOp_e, eUn_e, eIf_e, fB_e, dB_bl, fAnd_e, fOr_e, andT_t, andT_f, andT_x, orT_t, orT_f, orT_x, fNot_e, eAnd_e, eOr_e, andE_t, andE_f, orE_t, orE_f, eNot_e, dN_bl, eCh_e, chN_t, chN_f, eCh3_e, chN2_t, chN2_f, aCons_e, aNil_e, eLst_e, eTup_e, eCall_e, eFn_e, eC_e, sTgt_e, tgtN_some, sPar_e, parN_e, sRaise_e, sNil_e, eTab_e, tabN_e, eIndexT_e, idxN_e, endS_rt, endS_nx, endS_ex, view_sh, view_ow, view_ow2, shs_cons, shs_nil, shO_sh, shO_dead, shO_ow, shO_ow2, setR_c, setR_n, un1_e, unT_e, oNone_e, oSome_e, dI_int, fDef, List.append_nil, List.nil_append, List.cons_append, List.replicate_succ, List.replicate_zero, List.length_cons, List.length_nil, List.set_cons_zero, List.set_cons_succ, List.getElem?_cons_zero, List.getElem?_cons_succ, Nat.sub_zero, Nat.reduceSub, Nat.reduceAdd, Nat.reduceLeDiff, if_true, if_false, ite_true, ite_false, Bool.false_eq_true, decide_true, decide_false, Bool.not_true, Bool.not_false, kSub_int, kAdd_int, kLt_int, kLe_int, kGt_int, kGe_int, kEq_int, kNe_int, kMod_int, kEq_pair, kNe_pair, Bool.and_true, Bool.and_false, Bool.true_and, Bool.false_and, k0, decide_eq_false e, eSl_e, slN_scr]
theorem law_true : ∀ ns : List Int, ns.length ≤ 63 → (∀ z ∈ ns, Builtin.Int.intBits z ≤ 1048576) → gLaw2 (([.scr ns] : List Da).map Sl.sh ++ List.replicate 11 Sl.dead) = .rt (.sh (.bl true)) := by
  intro ns hl hbits
  have hb : ∀ z ∈ ns, Bt 1048576 z := fun z hz => Bt.of_bits (hbits z hz)
  have hms : cut ns none (some 63) = ns := cut_all (k := 63) hl
  have hM0 : Bt 1048583 ns.sum := Bt.sum' hb (by omega)
  have hMb := Bt.abs hM0
  have hM00 : 0 ≤ (if ns.sum < 0 then -ns.sum else ns.sum) := by split <;> omega
  generalize hMe : (if ns.sum < 0 then -ns.sum else ns.sum) = M at hMb hM00
  obtain ⟨cs, c0, cb, hcs⟩ := ev_cells hb (M := M)
  obtain ⟨n, hn, n3, n7⟩ : ∃ n : Nat, 3 + M % 5 = (n : Int) ∧ 3 ≤ n ∧ n ≤ 7 := ⟨(3 + M % 5).toNat, by omega, by omega, by omega⟩
  have hnum : f__law_number [.int M, .int 3, .int 7] = .ok (.sh (.int (numZ M 3 7))) := numZ_eq (hMb.mono (by decide)) (by omega) (by omega)
  have d3 : ∀ x, divOk x 3 = true := fun x => divOk_s (by omega) (by omega)
  have N0 : 0 ≤ (if numZ M 3 7 < 0 then -numZ M 3 7 else numZ M 3 7) / 3 := by split <;> omega
  generalize hN : (if numZ M 3 7 < 0 then -numZ M 3 7 else numZ M 3 7) / 3 = N at N0
  have bn : Big (n : Int) := big_nat (by omega) (by omega)
  have nn : 0 < (n : Int) * n := Int.mul_pos (by omega) (by omega)
  have q1 := Int.emod_nonneg N (b := (n : Int)) (by omega)
  have q2 := Int.emod_lt_of_pos N (b := (n : Int)) (by omega)
  have q3 := Int.emod_nonneg N (b := (n : Int) * n) (by omega)
  have q4 := Int.emod_lt_of_pos N (b := (n : Int) * n) nn
  have t1 := ev_total bn (by omega)
  have t2 : f_total [.int 1] = .ok (.sh (.int 1)) := by kernel_rfl
  have t3 := ev_number_at bn (by omega) (r := N % (n : Int)) (c := 0) ⟨q1, q2⟩ ⟨by omega, by omega⟩
  have t4 := ev_place_of bn (by omega) (k := 1 + N % ((n : Int) * n)) (by omega) (by omega)
  have t5 := ev_place_of bn (by omega) (k := 1) (by omega) (by omega)
  have m2 : mulOk (n : Int) (n : Int) = true := mulOk_l (by omega) (by omega)
  have t6 := ev_three (a := M) (b := 2) (c := 5)
  have t7 := ev_parts (a := M) (b := 2) (c := 5)
  have t8 : f_number_at [.int 1, .int 0, .int 0] = .ok (.sh (.int 1)) := by kernel_rfl
  have t9 : f_place_of [.int 1, .int 1] = .ok (.sh (.tup [.int 0, .int 0])) := by kernel_rfl
  have ta : f_made [.int 1] = .ok (.ow2 (dD [[1]])) := by kernel_rfl
  have tb3 := ev_three (a := 5) (b := 1) (c := 3)
  have tc := ev_parts (a := 5) (b := 1) (c := 3)
  have td : f_made [.int (n : Int)] = .ok (.ow2 (dD (tb n n fun r c => num n r c))) := ev_made (by omega) (by omega) (by omega)
  have te := ev_three (a := M) (b := 1) (c := 3)
  have k1 : kIsi .tuple (.tup [.int 5, .int 1, .int 3]) = some (.sh (.bl true)) := rfl
  have k2 : ∀ p q : Int, kIsi .tuple (.tup [.int p, .int q]) = some (.sh (.bl true)) := fun _ _ => rfl
  have ka : ∀ a b c d : Da, kAdd (.lst [a, b, c]) (.lst [d]) = some (.ow [a, b, c, d]) := fun _ _ _ _ => rfl
  have kb : ∀ a b c d e f g h i : Da, kAdd (.lst [a, b, c, d]) (.lst [e, f, g, h, i]) = some (.ow [a, b, c, d, e, f, g, h, i]) := fun _ _ _ _ _ _ _ _ _ => rfl
  have pl : ∀ a b c d e : Int, f__law_plain 6 [.lst [.int a, .int b, .int c, .tup [.int d, .int e], .lst ((three M 2 5).map fun r => Da.lst (r.map .int)), .tup [.int M, .int 2, .int 5], .int 1, .tup [.int 0, .int 0], dM [[1]]]] = .ok (.sh (.bl true)) := fun a b c d e => ev_plain 6 _ rfl
  generalize hss : cut cs none (some 3) = ss
  have s3 : ss.length = min 3 cs.length := by rw [← hss]; exact cut_lenN
  have sb : ∀ z ∈ ss, Bt 1048600 z := fun z hz => (cb z (mem_cut (by rw [hss]; exact hz))).mono (by decide)
  have hcut : cut (cs.map Da.int) none (some 3) = ss.map .int := by rw [cut_map, hss]
  generalize hdf : (Da.lst [.int ((n : Int) * (n * n + 1) / 2), .int 1, .int (num n (N % (n : Int)) 0), .tup [.int (plR n (1 + N % ((n : Int) * n))), .int (plC n (1 + N % ((n : Int) * n)))], .lst ((three M 2 5).map fun r => Da.lst (r.map .int)), .tup [.int M, .int 2, .int 5], .int 1, .tup [.int 0, .int 0], dM [[1]]]) = df
  obtain ⟨post, y8, w1, w2, w3⟩ := rows_ok (M := M) (d0 := .scr ns) (d2 := .lst (cs.map .int)) (d3 := .int n) (d4 := .int N) (d5 := df) (by omega) (by omega) sb ss.length (x8 := .dead) [] 0 (by omega) (by simp; omega) (by intro r hr; cases hr)
  rw [← List.range_eq_range'] at w1
  have rg := rangeN_nat (n := ss.length) (by omega)
  have sqp : Sq post ss.length := ⟨by rw [w2]; simp, w3⟩
  have r1 := ev_square_right sqp (by omega) (by omega)
  have r2 := ev_square_right (tb_sq (n := n) (f := fun r c => num n r c)) (by omega) (by omega)
  have r3 : f__law_square_right [.lst [.lst [.int 7]]] = .ok (.sh (.bl true)) := ev_square_right (xss := [[7]]) (n := 1) ⟨rfl, fun r hr => by
    simp only [List.mem_cons, List.not_mem_nil, or_false] at hr
    subst hr; rfl⟩ (by decide) (by decide)
  have r4 : f__law_square_right [.lst ((three M 1 3).map fun r => Da.lst (r.map .int))] = .ok (.sh (.bl true)) := ev_square_right (three_sq (a := M) (b := 1) (c := 3)) (by decide) (by decide)
  have fin : ∀ y8 : Sl, eCall kAll (aCons (eLc (iL asL (eLst (aCons (eVar 6) (aCons (eFn f_made (aCons (eVar 3) (aNil))) (aCons (eLst (aCons (eLst (aCons (eC (.int 7)) (aNil))) (aNil))) (aCons (eFn f_three (aCons (eVar 1) (aCons (eC (.int 1)) (aCons (eC (.int 3)) (aNil))))) (aNil))))))) [9] un1 [9] (eFn f__law_square_right (aCons (eVar 9) (aNil)))) (aNil)) [.sh (.scr ns), .sh (.int M), .sh (.lst (cs.map .int)), .sh (.int n), .sh (.int N), .sh df, .sh (.lst (post.map fun r => Da.lst (r.map .int))), .sh (.lst (ss.map .int)), y8, .dead, .dead, .dead] = .ok (.sh (.bl true)) := fun y8 => by
    have lc := eLc_ok (fI := iL asL (eLst (aCons (eVar 6) (aCons (eFn f_made (aCons (eVar 3) (aNil))) (aCons (eLst (aCons (eLst (aCons (eC (.int 7)) (aNil))) (aNil))) (aCons (eFn f_three (aCons (eVar 1) (aCons (eC (.int 1)) (aCons (eC (.int 3)) (aNil))))) (aNil))))))) (is := [9]) (un := un1) (vs := [9]) (fe := eFn f__law_square_right (aCons (eVar 9) (aNil))) (ρ := [.sh (.scr ns), .sh (.int M), .sh (.lst (cs.map .int)), .sh (.int n), .sh (.int N), .sh df, .sh (.lst (post.map fun r => Da.lst (r.map .int))), .sh (.lst (ss.map .int)), y8, .dead, .dead, .dead]) (items := [dM post, dM (tb n n fun r c => num n r c), .lst [.lst [.int 7]], .lst ((three M 1 3).map fun r => Da.lst (r.map .int))]) (fun _ => .bl true)
      (by simp only [iL_e, sSeq_e, then_nx, then_rt, then_ex, fin_ok, fin_ex, sSet_e, sOwn_e, sRet_e, sExpr_e, sRetVar_e, retN_sh, retN_ow, retN_ow2, sIf_e, selS_t, selS_f, selE_t, selE_f, stf_f, stf_t, bind_ok, bind_ex, dat_sh, dat_ow, dat_ow2, dat_ex, ofO_some, eVar_e, eOp_e, eUn_e, eIf_e, fB_e, dB_bl, fAnd_e, fOr_e, andT_t, andT_f, andT_x, orT_t, orT_f, orT_x, fNot_e, eAnd_e, eOr_e, andE_t, andE_f, orE_t, orE_f, eNot_e, dN_bl, eCh_e, chN_t, chN_f, eCh3_e, chN2_t, chN2_f, aCons_e, aNil_e, eLst_e, eTup_e, eCall_e, eFn_e, eC_e, sTgt_e, tgtN_some, sPar_e, parN_e, sRaise_e, sNil_e, eTab_e, tabN_e, eIndexT_e, idxN_e, endS_rt, endS_nx, endS_ex, view_sh, view_ow, view_ow2, shs_cons, shs_nil, shO_sh, shO_dead, shO_ow, shO_ow2, setR_c, setR_n, un1_e, unT_e, oNone_e, oSome_e, dI_int, fDef, List.append_nil, List.nil_append, List.cons_append, List.replicate_succ, List.replicate_zero, List.length_cons, List.length_nil, List.set_cons_zero, List.set_cons_succ, List.getElem?_cons_zero, List.getElem?_cons_succ, Nat.sub_zero, Nat.reduceSub, Nat.reduceAdd, Nat.reduceLeDiff, if_true, if_false, ite_true, ite_false, Bool.false_eq_true, decide_true, decide_false, Bool.not_true, Bool.not_false, kSub_int, kAdd_int, kLt_int, kLe_int, kGt_int, kGe_int, kEq_int, kNe_int, kMod_int, kEq_pair, kNe_pair, Bool.and_true, Bool.and_false, Bool.true_and, Bool.false_and, lst_dD, td, te, asL_lst]; rfl) (by simp) (fun d hd => elD_un1 (by
        simp only [List.mem_cons, List.not_mem_nil, or_false] at hd
        rcases hd with rfl | rfl | rfl | rfl
        · simp only [wipeR, sSeq_e, then_nx, then_rt, then_ex, fin_ok, fin_ex, sSet_e, sOwn_e, sRet_e, sExpr_e, sRetVar_e, retN_sh, retN_ow, retN_ow2, sIf_e, selS_t, selS_f, selE_t, selE_f, stf_f, stf_t, bind_ok, bind_ex, dat_sh, dat_ow, dat_ow2, dat_ex, ofO_some, eVar_e, eOp_e, eUn_e, eIf_e, fB_e, dB_bl, fAnd_e, fOr_e, andT_t, andT_f, andT_x, orT_t, orT_f, orT_x, fNot_e, eAnd_e, eOr_e, andE_t, andE_f, orE_t, orE_f, eNot_e, dN_bl, eCh_e, chN_t, chN_f, eCh3_e, chN2_t, chN2_f, aCons_e, aNil_e, eLst_e, eTup_e, eCall_e, eFn_e, eC_e, sTgt_e, tgtN_some, sPar_e, parN_e, sRaise_e, sNil_e, eTab_e, tabN_e, eIndexT_e, idxN_e, endS_rt, endS_nx, endS_ex, view_sh, view_ow, view_ow2, shs_cons, shs_nil, shO_sh, shO_dead, shO_ow, shO_ow2, setR_c, setR_n, un1_e, unT_e, oNone_e, oSome_e, dI_int, fDef, List.append_nil, List.nil_append, List.cons_append, List.replicate_succ, List.replicate_zero, List.length_cons, List.length_nil, List.set_cons_zero, List.set_cons_succ, List.getElem?_cons_zero, List.getElem?_cons_succ, Nat.sub_zero, Nat.reduceSub, Nat.reduceAdd, Nat.reduceLeDiff, if_true, if_false, ite_true, ite_false, Bool.false_eq_true, decide_true, decide_false, Bool.not_true, Bool.not_false, kSub_int, kAdd_int, kLt_int, kLe_int, kGt_int, kGe_int, kEq_int, kNe_int, kMod_int, kEq_pair, kNe_pair, Bool.and_true, Bool.and_false, Bool.true_and, Bool.false_and, r1]
        · simp only [wipeR, sSeq_e, then_nx, then_rt, then_ex, fin_ok, fin_ex, sSet_e, sOwn_e, sRet_e, sExpr_e, sRetVar_e, retN_sh, retN_ow, retN_ow2, sIf_e, selS_t, selS_f, selE_t, selE_f, stf_f, stf_t, bind_ok, bind_ex, dat_sh, dat_ow, dat_ow2, dat_ex, ofO_some, eVar_e, eOp_e, eUn_e, eIf_e, fB_e, dB_bl, fAnd_e, fOr_e, andT_t, andT_f, andT_x, orT_t, orT_f, orT_x, fNot_e, eAnd_e, eOr_e, andE_t, andE_f, orE_t, orE_f, eNot_e, dN_bl, eCh_e, chN_t, chN_f, eCh3_e, chN2_t, chN2_f, aCons_e, aNil_e, eLst_e, eTup_e, eCall_e, eFn_e, eC_e, sTgt_e, tgtN_some, sPar_e, parN_e, sRaise_e, sNil_e, eTab_e, tabN_e, eIndexT_e, idxN_e, endS_rt, endS_nx, endS_ex, view_sh, view_ow, view_ow2, shs_cons, shs_nil, shO_sh, shO_dead, shO_ow, shO_ow2, setR_c, setR_n, un1_e, unT_e, oNone_e, oSome_e, dI_int, fDef, List.append_nil, List.nil_append, List.cons_append, List.replicate_succ, List.replicate_zero, List.length_cons, List.length_nil, List.set_cons_zero, List.set_cons_succ, List.getElem?_cons_zero, List.getElem?_cons_succ, Nat.sub_zero, Nat.reduceSub, Nat.reduceAdd, Nat.reduceLeDiff, if_true, if_false, ite_true, ite_false, Bool.false_eq_true, decide_true, decide_false, Bool.not_true, Bool.not_false, kSub_int, kAdd_int, kLt_int, kLe_int, kGt_int, kGe_int, kEq_int, kNe_int, kMod_int, kEq_pair, kNe_pair, Bool.and_true, Bool.and_false, Bool.true_and, Bool.false_and, r2]
        · simp only [wipeR, sSeq_e, then_nx, then_rt, then_ex, fin_ok, fin_ex, sSet_e, sOwn_e, sRet_e, sExpr_e, sRetVar_e, retN_sh, retN_ow, retN_ow2, sIf_e, selS_t, selS_f, selE_t, selE_f, stf_f, stf_t, bind_ok, bind_ex, dat_sh, dat_ow, dat_ow2, dat_ex, ofO_some, eVar_e, eOp_e, eUn_e, eIf_e, fB_e, dB_bl, fAnd_e, fOr_e, andT_t, andT_f, andT_x, orT_t, orT_f, orT_x, fNot_e, eAnd_e, eOr_e, andE_t, andE_f, orE_t, orE_f, eNot_e, dN_bl, eCh_e, chN_t, chN_f, eCh3_e, chN2_t, chN2_f, aCons_e, aNil_e, eLst_e, eTup_e, eCall_e, eFn_e, eC_e, sTgt_e, tgtN_some, sPar_e, parN_e, sRaise_e, sNil_e, eTab_e, tabN_e, eIndexT_e, idxN_e, endS_rt, endS_nx, endS_ex, view_sh, view_ow, view_ow2, shs_cons, shs_nil, shO_sh, shO_dead, shO_ow, shO_ow2, setR_c, setR_n, un1_e, unT_e, oNone_e, oSome_e, dI_int, fDef, List.append_nil, List.nil_append, List.cons_append, List.replicate_succ, List.replicate_zero, List.length_cons, List.length_nil, List.set_cons_zero, List.set_cons_succ, List.getElem?_cons_zero, List.getElem?_cons_succ, Nat.sub_zero, Nat.reduceSub, Nat.reduceAdd, Nat.reduceLeDiff, if_true, if_false, ite_true, ite_false, Bool.false_eq_true, decide_true, decide_false, Bool.not_true, Bool.not_false, kSub_int, kAdd_int, kLt_int, kLe_int, kGt_int, kGe_int, kEq_int, kNe_int, kMod_int, kEq_pair, kNe_pair, Bool.and_true, Bool.and_false, Bool.true_and, Bool.false_and, r3]
        · simp only [wipeR, sSeq_e, then_nx, then_rt, then_ex, fin_ok, fin_ex, sSet_e, sOwn_e, sRet_e, sExpr_e, sRetVar_e, retN_sh, retN_ow, retN_ow2, sIf_e, selS_t, selS_f, selE_t, selE_f, stf_f, stf_t, bind_ok, bind_ex, dat_sh, dat_ow, dat_ow2, dat_ex, ofO_some, eVar_e, eOp_e, eUn_e, eIf_e, fB_e, dB_bl, fAnd_e, fOr_e, andT_t, andT_f, andT_x, orT_t, orT_f, orT_x, fNot_e, eAnd_e, eOr_e, andE_t, andE_f, orE_t, orE_f, eNot_e, dN_bl, eCh_e, chN_t, chN_f, eCh3_e, chN2_t, chN2_f, aCons_e, aNil_e, eLst_e, eTup_e, eCall_e, eFn_e, eC_e, sTgt_e, tgtN_some, sPar_e, parN_e, sRaise_e, sNil_e, eTab_e, tabN_e, eIndexT_e, idxN_e, endS_rt, endS_nx, endS_ex, view_sh, view_ow, view_ow2, shs_cons, shs_nil, shO_sh, shO_dead, shO_ow, shO_ow2, setR_c, setR_n, un1_e, unT_e, oNone_e, oSome_e, dI_int, fDef, List.append_nil, List.nil_append, List.cons_append, List.replicate_succ, List.replicate_zero, List.length_cons, List.length_nil, List.set_cons_zero, List.set_cons_succ, List.getElem?_cons_zero, List.getElem?_cons_succ, Nat.sub_zero, Nat.reduceSub, Nat.reduceAdd, Nat.reduceLeDiff, if_true, if_false, ite_true, ite_false, Bool.false_eq_true, decide_true, decide_false, Bool.not_true, Bool.not_false, kSub_int, kAdd_int, kLt_int, kLe_int, kGt_int, kGe_int, kEq_int, kNe_int, kMod_int, kEq_pair, kNe_pair, Bool.and_true, Bool.and_false, Bool.true_and, Bool.false_and, r4]))
    simp only [sSeq_e, then_nx, then_rt, then_ex, fin_ok, fin_ex, sSet_e, sOwn_e, sRet_e, sExpr_e, sRetVar_e, retN_sh, retN_ow, retN_ow2, sIf_e, selS_t, selS_f, selE_t, selE_f, stf_f, stf_t, bind_ok, bind_ex, dat_sh, dat_ow, dat_ow2, dat_ex, ofO_some, eVar_e, eOp_e, eUn_e, eIf_e, fB_e, dB_bl, fAnd_e, fOr_e, andT_t, andT_f, andT_x, orT_t, orT_f, orT_x, fNot_e, eAnd_e, eOr_e, andE_t, andE_f, orE_t, orE_f, eNot_e, dN_bl, eCh_e, chN_t, chN_f, eCh3_e, chN2_t, chN2_f, aCons_e, aNil_e, eLst_e, eTup_e, eCall_e, eFn_e, eC_e, sTgt_e, tgtN_some, sPar_e, parN_e, sRaise_e, sNil_e, eTab_e, tabN_e, eIndexT_e, idxN_e, endS_rt, endS_nx, endS_ex, view_sh, view_ow, view_ow2, shs_cons, shs_nil, shO_sh, shO_dead, shO_ow, shO_ow2, setR_c, setR_n, un1_e, unT_e, oNone_e, oSome_e, dI_int, fDef, List.append_nil, List.nil_append, List.cons_append, List.replicate_succ, List.replicate_zero, List.length_cons, List.length_nil, List.set_cons_zero, List.set_cons_succ, List.getElem?_cons_zero, List.getElem?_cons_succ, Nat.sub_zero, Nat.reduceSub, Nat.reduceAdd, Nat.reduceLeDiff, if_true, if_false, ite_true, ite_false, Bool.false_eq_true, decide_true, decide_false, Bool.not_true, Bool.not_false, kSub_int, kAdd_int, kLt_int, kLe_int, kGt_int, kGe_int, kEq_int, kNe_int, kMod_int, kEq_pair, kNe_pair, Bool.and_true, Bool.and_false, Bool.true_and, Bool.false_and, lc, kAll_true]
  show gLaw2 [.sh (.scr ns), .dead, .dead, .dead, .dead, .dead, .dead, .dead, .dead, .dead, .dead, .dead] = _
  rw [law2_eq]
  have hpl : f__law_plain 6 [df] = .ok (.sh (.bl true)) := by rw [← hdf]; exact pl _ _ _ _ _
  have hcs : CELLS [.sh (.scr ns), .sh (.int M), .dead, .dead, .dead, .dead, .dead, .dead, .dead, .dead, .dead, .dead] = .ok (.ow (cs.map .int)) := hcs
  have fin : ∀ y8 : Sl, ALLR [.sh (.scr ns), .sh (.int M), .sh (.lst (cs.map .int)), .sh (.int n), .sh (.int N), .sh df, .sh (.lst (post.map fun r => Da.lst (r.map .int))), .sh (.lst (ss.map .int)), y8, .dead, .dead, .dead] = .ok (.sh (.bl true)) := fin
  have w1 : loopF [8] un1 BODY ((List.range ss.length).map fun (i : Nat) => Da.int (i : Int)) [.sh (.scr ns), .sh (.int M), .sh (.lst (cs.map .int)), .sh (.int n), .sh (.int N), .sh df, .ow [], .sh (.lst (ss.map .int)), .dead, .dead, .dead, .dead] = _ := w1
  have hpar : sParO 6 7 (eLst (aNil)) (eSl (eVar 2) (oNone) (oSome (eC (.int 3)))) [.sh (.scr ns), .sh (.int M), .sh (.lst (cs.map .int)), .sh (.int n), .sh (.int N), .sh df, .dead, .dead, .dead, .dead, .dead, .dead] = .nx [.sh (.scr ns), .sh (.int M), .sh (.lst (cs.map .int)), .sh (.int n), .sh (.int N), .sh df, .ow [], .sh (.lst (ss.map .int)), .dead, .dead, .dead, .dead] := by
    rw [sParO_ok (xs := []) (d := .lst (ss.map .int)) rfl (by simp only [sSeq_e, then_nx, then_rt, then_ex, fin_ok, fin_ex, sSet_e, sOwn_e, sRet_e, sExpr_e, sRetVar_e, retN_sh, retN_ow, retN_ow2, sIf_e, selS_t, selS_f, selE_t, selE_f, stf_f, stf_t, bind_ok, bind_ex, dat_sh, dat_ow, dat_ow2, dat_ex, ofO_some, eVar_e, eOp_e, eUn_e, eIf_e, fB_e, dB_bl, fAnd_e, fOr_e, andT_t, andT_f, andT_x, orT_t, orT_f, orT_x, fNot_e, eAnd_e, eOr_e, andE_t, andE_f, orE_t, orE_f, eNot_e, dN_bl, eCh_e, chN_t, chN_f, eCh3_e, chN2_t, chN2_f, aCons_e, aNil_e, eLst_e, eTup_e, eCall_e, eFn_e, eC_e, sTgt_e, tgtN_some, sPar_e, parN_e, sRaise_e, sNil_e, eTab_e, tabN_e, eIndexT_e, idxN_e, endS_rt, endS_nx, endS_ex, view_sh, view_ow, view_ow2, shs_cons, shs_nil, shO_sh, shO_dead, shO_ow, shO_ow2, setR_c, setR_n, un1_e, unT_e, oNone_e, oSome_e, dI_int, fDef, List.append_nil, List.nil_append, List.cons_append, List.replicate_succ, List.replicate_zero, List.length_cons, List.length_nil, List.set_cons_zero, List.set_cons_succ, List.getElem?_cons_zero, List.getElem?_cons_succ, Nat.sub_zero, Nat.reduceSub, Nat.reduceAdd, Nat.reduceLeDiff, if_true, if_false, ite_true, ite_false, Bool.false_eq_true, decide_true, decide_false, Bool.not_true, Bool.not_false, kSub_int, kAdd_int, kLt_int, kLe_int, kGt_int, kGe_int, kEq_int, kNe_int, kMod_int, kEq_pair, kNe_pair, Bool.and_true, Bool.and_false, Bool.true_and, Bool.false_and, eSl_e, slN_lst, hcut])]
    rfl
  have hfr : ∀ g : SemS, sFrz 6 g [.sh (.scr ns), .sh (.int M), .sh (.lst (cs.map .int)), .sh (.int n), .sh (.int N), .sh df, .ow (post.map fun r => Da.lst (r.map .int)), .sh (.lst (ss.map .int)), y8, .dead, .dead, .dead] = g [.sh (.scr ns), .sh (.int M), .sh (.lst (cs.map .int)), .sh (.int n), .sh (.int N), .sh df, .sh (.lst (post.map fun r => Da.lst (r.map .int))), .sh (.lst (ss.map .int)), y8, .dead, .dead, .dead] := fun g => sFrz_ow rfl
  have fin' := fin (shO y8)
  simp (disch := omega) only [sSeq_e, then_nx, then_rt, then_ex, fin_ok, fin_ex, sSet_e, sOwn_e, sRet_e, sExpr_e, sRetVar_e, retN_sh, retN_ow, retN_ow2, sIf_e, selS_t, selS_f, selE_t, selE_f, stf_f, stf_t, bind_ok, bind_ex, dat_sh, dat_ow, dat_ow2, dat_ex, ofO_some, eVar_e, eOp_e, eUn_e, eIf_e, fB_e, dB_bl, fAnd_e, fOr_e, andT_t, andT_f, andT_x, orT_t, orT_f, orT_x, fNot_e, eAnd_e, eOr_e, andE_t, andE_f, orE_t, orE_f, eNot_e, dN_bl, eCh_e, chN_t, chN_f, eCh3_e, chN2_t, chN2_f, aCons_e, aNil_e, eLst_e, eTup_e, eCall_e, eFn_e, eC_e, sTgt_e, tgtN_some, sPar_e, parN_e, sRaise_e, sNil_e, eTab_e, tabN_e, eIndexT_e, idxN_e, endS_rt, endS_nx, endS_ex, view_sh, view_ow, view_ow2, shs_cons, shs_nil, shO_sh, shO_dead, shO_ow, shO_ow2, setR_c, setR_n, un1_e, unT_e, oNone_e, oSome_e, dI_int, fDef, List.append_nil, List.nil_append, List.cons_append, List.replicate_succ, List.replicate_zero, List.length_cons, List.length_nil, List.set_cons_zero, List.set_cons_succ, List.getElem?_cons_zero, List.getElem?_cons_succ, Nat.sub_zero, Nat.reduceSub, Nat.reduceAdd, Nat.reduceLeDiff, if_true, if_false, ite_true, ite_false, Bool.false_eq_true, decide_true, decide_false, Bool.not_true, Bool.not_false, kSub_int, kAdd_int, kLt_int, kLe_int, kGt_int, kGe_int, kEq_int, kNe_int, kMod_int, kEq_pair, kNe_pair, Bool.and_true, Bool.and_false, Bool.true_and, Bool.false_and, lst_dD, eSl_e, slN_scr, hms, kSum_ints, kAbs_int, hMe, hcs, hn, hnum, (fun x => kDiv_int (d3 x)), hN, t1, t2, t3, kMul_int m2, t4, ka, t6, t7, t8, t9, ta, kb, hdf, hpl, tb3, tc, k1, t5, k2, hpar, sFor_e, iR1_e, kLen_ints, rN_int, rg, w1, hfr, fin']
end K08

namespace K08
open PySem PySem.Spec PyProof.Rows L2 G6
def topS (i : Nat) : Stmt := PySem.Challenge.pw_evensquare_k08_whole_numbers.main.body.getD i (.Pass ⟨0, 0, 0, 0⟩)
abbrev s_is_number : Stmt := topS 9
theorem sc_is_number : FnScope ["thing"] ["thing"] (defScope s_is_number) := ⟨rfl, rfl, rfl, by decide +kernel, rfl, by decide +kernel, by decide +kernel⟩
abbrev s_asked_square : Stmt := topS 10
theorem sc_asked_square : FnScope ["square", "row", "one"] ["square"] (defScope s_asked_square) := ⟨rfl, rfl, rfl, by decide +kernel, rfl, by decide +kernel, by decide +kernel⟩
abbrev s_lines : Stmt := topS 11
theorem sc_lines : FnScope ["order", "found", "at"] ["order"] (defScope s_lines) := ⟨rfl, rfl, rfl, by decide +kernel, rfl, by decide +kernel, by decide +kernel⟩
abbrev s_sum_along : Stmt := topS 12
theorem sc_sum_along : FnScope ["square", "line", "kind", "at", "last", "step", "row"] ["square", "line"] (defScope s_sum_along) := ⟨rfl, rfl, rfl, by decide +kernel, rfl, by decide +kernel, by decide +kernel⟩
abbrev s_whole : Stmt := topS 13
theorem sc_whole : FnScope ["square", "numbers", "row"] ["square"] (defScope s_whole) := ⟨rfl, rfl, rfl, by decide +kernel, rfl, by decide +kernel, by decide +kernel⟩
abbrev s_turned : Stmt := topS 14
theorem sc_turned : FnScope ["square", "way", "found", "turn", "row", "at"] ["square", "way"] (defScope s_turned) := ⟨rfl, rfl, rfl, by decide +kernel, rfl, by decide +kernel, by decide +kernel⟩
abbrev s_other_way : Stmt := topS 15
theorem sc_other_way : FnScope ["square", "most", "row", "one"] ["square"] (defScope s_other_way) := ⟨rfl, rfl, rfl, by decide +kernel, rfl, by decide +kernel, by decide +kernel⟩
abbrev s_put_together : Stmt := topS 16
theorem sc_put_together : FnScope ["one", "other", "times", "here", "there", "mine", "theirs"] ["one", "other", "times"] (defScope s_put_together) := ⟨rfl, rfl, rfl, by decide +kernel, rfl, by decide +kernel, by decide +kernel⟩
abbrev s_product : Stmt := topS 17
theorem sc_product : FnScope ["one", "other", "size", "found", "high", "low", "row", "number", "small"] ["one", "other"] (defScope s_product) := ⟨rfl, rfl, rfl, by decide +kernel, rfl, by decide +kernel, by decide +kernel⟩
abbrev s_Even_shows : Stmt := inClass (topS 20) 1
theorem sc_Even_shows : FnScope ["self", "square", "line"] ["self", "square"] (defScope s_Even_shows) := ⟨rfl, rfl, rfl, by decide +kernel, rfl, by decide +kernel, by decide +kernel⟩
abbrev s_Unlike_shows : Stmt := inClass (topS 21) 1
theorem sc_Unlike_shows : FnScope ["self", "square", "every"] ["self", "square"] (defScope s_Unlike_shows) := ⟨rfl, rfl, rfl, by decide +kernel, rfl, by decide +kernel, by decide +kernel⟩
abbrev s_told : Stmt := topS 23
theorem sc_told : FnScope ["square", "first", "total", "line"] ["square"] (defScope s_told) := ⟨rfl, rfl, rfl, by decide +kernel, rfl, by decide +kernel, by decide +kernel⟩
abbrev s_three : Stmt := topS 24
theorem sc_three : FnScope ["middle", "one", "other", "top", "side"] ["middle", "one", "other"] (defScope s_three) := ⟨rfl, rfl, rfl, by decide +kernel, rfl, by decide +kernel, by decide +kernel⟩
abbrev s_parts : Stmt := topS 25
theorem sc_parts : FnScope ["square", "middle"] ["square"] (defScope s_parts) := ⟨rfl, rfl, rfl, by decide +kernel, rfl, by decide +kernel, by decide +kernel⟩
abbrev s_asked_order : Stmt := topS 28
theorem sc_asked_order : FnScope ["order"] ["order"] (defScope s_asked_order) := ⟨rfl, rfl, rfl, by decide +kernel, rfl, by decide +kernel, by decide +kernel⟩
abbrev s_odd_number : Stmt := topS 29
theorem sc_odd_number : FnScope ["order", "row", "column", "half"] ["order", "row", "column"] (defScope s_odd_number) := ⟨rfl, rfl, rfl, by decide +kernel, rfl, by decide +kernel, by decide +kernel⟩
abbrev s_odd_place : Stmt := topS 30
theorem sc_odd_place : FnScope ["order", "number", "blocks", "steps"] ["order", "number"] (defScope s_odd_place) := ⟨rfl, rfl, rfl, by decide +kernel, rfl, by decide +kernel, by decide +kernel⟩
abbrev s_letter : Stmt := topS 31
theorem sc_letter : FnScope ["order", "row", "column", "half"] ["order", "row", "column"] (defScope s_letter) := ⟨rfl, rfl, rfl, by decide +kernel, rfl, by decide +kernel, by decide +kernel⟩
abbrev s_is_back : Stmt := topS 33
theorem sc_is_back : FnScope ["row", "column"] ["row", "column"] (defScope s_is_back) := ⟨rfl, rfl, rfl, by decide +kernel, rfl, by decide +kernel, by decide +kernel⟩
abbrev s_number_of : Stmt := topS 34
theorem sc_number_of : FnScope ["order", "row", "column", "half", "high", "wide", "spots", "found"] ["order", "row", "column"] (defScope s_number_of) := ⟨rfl, rfl, rfl, by decide +kernel, rfl, by decide +kernel, by decide +kernel⟩
abbrev s_number_at : Stmt := topS 35
theorem sc_number_at : FnScope ["order", "row", "column", "at"] ["order", "row", "column"] (defScope s_number_at) := ⟨rfl, rfl, rfl, by decide +kernel, rfl, by decide +kernel, by decide +kernel⟩
abbrev s_place_of : Stmt := topS 36
theorem sc_place_of : FnScope ["order", "number", "high", "wide", "down", "right", "row", "column"] ["order", "number"] (defScope s_place_of) := ⟨rfl, rfl, rfl, by decide +kernel, rfl, by decide +kernel, by decide +kernel⟩
abbrev s_made : Stmt := topS 37
theorem sc_made : FnScope ["order", "row", "column"] ["order"] (defScope s_made) := ⟨rfl, rfl, rfl, by decide +kernel, rfl, by decide +kernel, by decide +kernel⟩
abbrev s_total : Stmt := topS 38
theorem sc_total : FnScope ["order"] ["order"] (defScope s_total) := ⟨rfl, rfl, rfl, by decide +kernel, rfl, by decide +kernel, by decide +kernel⟩
abbrev s__law_number : Stmt := topS 40
theorem sc__law_number : FnScope ["_law_cell", "_law_at", "_law_mixed", "_law_blend", "_law_more"] ["_law_cell", "_law_at", "_law_mixed"] (defScope s__law_number) := ⟨rfl, rfl, rfl, by decide +kernel, rfl, by decide +kernel, by decide +kernel⟩
abbrev s__law_plain : Stmt := topS 41
theorem sc__law_plain : FnScope ["_law_thing", "_law_one"] ["_law_thing"] (defScope s__law_plain) := ⟨rfl, rfl, rfl, by decide +kernel, rfl, by decide +kernel, by decide +kernel⟩
abbrev s__law_truths : Stmt := topS 42
theorem sc__law_truths : FnScope ["_law_things", "_law_one"] ["_law_things"] (defScope s__law_truths) := ⟨rfl, rfl, rfl, by decide +kernel, rfl, by decide +kernel, by decide +kernel⟩
abbrev s__law_square_right : Stmt := topS 43
theorem sc__law_square_right : FnScope ["_law_square", "_law_answer", "_law_found", "_law_shown", "_law_built"] ["_law_square"] (defScope s__law_square_right) := ⟨rfl, rfl, rfl, by decide +kernel, rfl, by decide +kernel, by decide +kernel⟩
abbrev s__law_no_of : Stmt := topS 44
theorem sc__law_no_of : FnScope ["_law_ask", "error", "_law_sorts"] ["_law_ask"] (defScope s__law_no_of) := ⟨rfl, rfl, rfl, by decide +kernel, rfl, by decide +kernel, by decide +kernel⟩
abbrev s__law_made_promises : Stmt := topS 45
theorem sc__law_made_promises : FnScope ["_law_great", "_law_order", "_law_square", "_law_number_here", "_law_lots", "_law_row", "_law_column"] [] (defScope s__law_made_promises) := ⟨rfl, rfl, rfl, by decide +kernel, rfl, by decide +kernel, by decide +kernel⟩
abbrev s__law_promises_right : Stmt := topS 46
theorem sc__law_promises_right : FnScope ["_law_two", "_law_cases", "_law_one", "_law_other", "_law_square", "_law_due", "_law_ways", "_law_way"] [] (defScope s__law_promises_right) := ⟨rfl, rfl, rfl, by decide +kernel, rfl, by decide +kernel, by decide +kernel⟩
abbrev s__law_others_promises : Stmt := topS 47
theorem sc__law_others_promises : FnScope ["_law_two", "_law_square"] ["_law_two"] (defScope s__law_others_promises) := ⟨rfl, rfl, rfl, by decide +kernel, rfl, by decide +kernel, by decide +kernel⟩
abbrev s_law : Stmt := topS 48
theorem sc_law : FnScope ["_law_script", "_law_many", "_law_cells", "_law_order", "_law_number_here", "_law_found", "_law_drawn", "_law_some", "_law_row", "_law_square", "_law_at", "_law_cell"] ["_law_script"] (defScope s_law) := ⟨rfl, rfl, rfl, by decide +kernel, rfl, by decide +kernel, by decide +kernel⟩
abbrev si_Even : Stmt := inClass (topS 20) 0
theorem sci_Even : FnScope ["self", "total"] ["self", "total"] (defScope si_Even) := ⟨rfl, rfl, rfl, by decide +kernel, rfl, by decide +kernel, by decide +kernel⟩
abbrev si_Unlike : Stmt := inClass (topS 21) 0
theorem sci_Unlike : FnScope ["self", "one", "other"] ["self", "one", "other"] (defScope si_Unlike) := ⟨rfl, rfl, rfl, by decide +kernel, rfl, by decide +kernel, by decide +kernel⟩
structure Tp (T : Tx) (w : World) where
  a_is_number : Addr
  d_is_number : FuncData
  F_is_number : Fun T.K "is_number" "is_number" s_is_number a_is_number d_is_number
  b_is_number : Binds T.K d_is_number ["thing"] []
  g_is_number : T.mg "is_number" = some (.ref a_is_number)
  a_asked_square : Addr
  d_asked_square : FuncData
  F_asked_square : Fun T.K "asked_square" "asked_square" s_asked_square a_asked_square d_asked_square
  b_asked_square : Binds T.K d_asked_square ["square"] []
  g_asked_square : T.mg "asked_square" = some (.ref a_asked_square)
  a_lines : Addr
  d_lines : FuncData
  F_lines : Fun T.K "lines" "lines" s_lines a_lines d_lines
  b_lines : Binds T.K d_lines ["order"] []
  g_lines : T.mg "lines" = some (.ref a_lines)
  a_sum_along : Addr
  d_sum_along : FuncData
  F_sum_along : Fun T.K "sum_along" "sum_along" s_sum_along a_sum_along d_sum_along
  b_sum_along : Binds T.K d_sum_along ["square", "line"] []
  g_sum_along : T.mg "sum_along" = some (.ref a_sum_along)
  a_whole : Addr
  d_whole : FuncData
  F_whole : Fun T.K "whole" "whole" s_whole a_whole d_whole
  b_whole : Binds T.K d_whole ["square"] []
  g_whole : T.mg "whole" = some (.ref a_whole)
  a_turned : Addr
  d_turned : FuncData
  F_turned : Fun T.K "turned" "turned" s_turned a_turned d_turned
  b_turned : Binds T.K d_turned ["square", "way"] []
  g_turned : T.mg "turned" = some (.ref a_turned)
  a_other_way : Addr
  d_other_way : FuncData
  F_other_way : Fun T.K "other_way" "other_way" s_other_way a_other_way d_other_way
  b_other_way : Binds T.K d_other_way ["square"] []
  g_other_way : T.mg "other_way" = some (.ref a_other_way)
  a_put_together : Addr
  d_put_together : FuncData
  F_put_together : Fun T.K "put_together" "put_together" s_put_together a_put_together d_put_together
  b_put_together : Binds T.K d_put_together ["one", "other", "times"] []
  g_put_together : T.mg "put_together" = some (.ref a_put_together)
  a_product : Addr
  d_product : FuncData
  F_product : Fun T.K "product" "product" s_product a_product d_product
  b_product : Binds T.K d_product ["one", "other"] []
  g_product : T.mg "product" = some (.ref a_product)
  a_Even_shows : Addr
  d_Even_shows : FuncData
  F_Even_shows : Fun T.K "shows" "Even.shows" s_Even_shows a_Even_shows d_Even_shows
  b_Even_shows : Binds T.K d_Even_shows ["self", "square"] []
  M_Even_shows : Meth T.K T.ce "shows" a_Even_shows
  a_Unlike_shows : Addr
  d_Unlike_shows : FuncData
  F_Unlike_shows : Fun T.K "shows" "Unlike.shows" s_Unlike_shows a_Unlike_shows d_Unlike_shows
  b_Unlike_shows : Binds T.K d_Unlike_shows ["self", "square"] []
  M_Unlike_shows : Meth T.K T.cu "shows" a_Unlike_shows
  a_told : Addr
  d_told : FuncData
  F_told : Fun T.K "told" "told" s_told a_told d_told
  b_told : Binds T.K d_told ["square"] []
  g_told : T.mg "told" = some (.ref a_told)
  a_three : Addr
  d_three : FuncData
  F_three : Fun T.K "three" "three" s_three a_three d_three
  b_three : Binds T.K d_three ["middle", "one", "other"] []
  g_three : T.mg "three" = some (.ref a_three)
  a_parts : Addr
  d_parts : FuncData
  F_parts : Fun T.K "parts" "parts" s_parts a_parts d_parts
  b_parts : Binds T.K d_parts ["square"] []
  g_parts : T.mg "parts" = some (.ref a_parts)
  a_asked_order : Addr
  d_asked_order : FuncData
  F_asked_order : Fun T.K "asked_order" "asked_order" s_asked_order a_asked_order d_asked_order
  b_asked_order : Binds T.K d_asked_order ["order"] []
  g_asked_order : T.mg "asked_order" = some (.ref a_asked_order)
  a_odd_number : Addr
  d_odd_number : FuncData
  F_odd_number : Fun T.K "odd_number" "odd_number" s_odd_number a_odd_number d_odd_number
  b_odd_number : Binds T.K d_odd_number ["order", "row", "column"] []
  g_odd_number : T.mg "odd_number" = some (.ref a_odd_number)
  a_odd_place : Addr
  d_odd_place : FuncData
  F_odd_place : Fun T.K "odd_place" "odd_place" s_odd_place a_odd_place d_odd_place
  b_odd_place : Binds T.K d_odd_place ["order", "number"] []
  g_odd_place : T.mg "odd_place" = some (.ref a_odd_place)
  a_letter : Addr
  d_letter : FuncData
  F_letter : Fun T.K "letter" "letter" s_letter a_letter d_letter
  b_letter : Binds T.K d_letter ["order", "row", "column"] []
  g_letter : T.mg "letter" = some (.ref a_letter)
  a_is_back : Addr
  d_is_back : FuncData
  F_is_back : Fun T.K "is_back" "is_back" s_is_back a_is_back d_is_back
  b_is_back : Binds T.K d_is_back ["row", "column"] []
  g_is_back : T.mg "is_back" = some (.ref a_is_back)
  a_number_of : Addr
  d_number_of : FuncData
  F_number_of : Fun T.K "number_of" "number_of" s_number_of a_number_of d_number_of
  b_number_of : Binds T.K d_number_of ["order", "row", "column"] []
  g_number_of : T.mg "number_of" = some (.ref a_number_of)
  a_number_at : Addr
  d_number_at : FuncData
  F_number_at : Fun T.K "number_at" "number_at" s_number_at a_number_at d_number_at
  b_number_at : Binds T.K d_number_at ["order", "row", "column"] []
  g_number_at : T.mg "number_at" = some (.ref a_number_at)
  a_place_of : Addr
  d_place_of : FuncData
  F_place_of : Fun T.K "place_of" "place_of" s_place_of a_place_of d_place_of
  b_place_of : Binds T.K d_place_of ["order", "number"] []
  g_place_of : T.mg "place_of" = some (.ref a_place_of)
  a_made : Addr
  d_made : FuncData
  F_made : Fun T.K "made" "made" s_made a_made d_made
  b_made : Binds T.K d_made ["order"] []
  g_made : T.mg "made" = some (.ref a_made)
  a_total : Addr
  d_total : FuncData
  F_total : Fun T.K "total" "total" s_total a_total d_total
  b_total : Binds T.K d_total ["order"] []
  g_total : T.mg "total" = some (.ref a_total)
  a__law_number : Addr
  d__law_number : FuncData
  F__law_number : Fun T.K "_law_number" "_law_number" s__law_number a__law_number d__law_number
  b__law_number : Binds T.K d__law_number ["_law_cell", "_law_at", "_law_mixed"] []
  g__law_number : T.mg "_law_number" = some (.ref a__law_number)
  a__law_plain : Addr
  d__law_plain : FuncData
  F__law_plain : Fun T.K "_law_plain" "_law_plain" s__law_plain a__law_plain d__law_plain
  b__law_plain : Binds T.K d__law_plain ["_law_thing"] []
  g__law_plain : T.mg "_law_plain" = some (.ref a__law_plain)
  a__law_truths : Addr
  d__law_truths : FuncData
  F__law_truths : Fun T.K "_law_truths" "_law_truths" s__law_truths a__law_truths d__law_truths
  b__law_truths : Binds T.K d__law_truths ["_law_things"] []
  g__law_truths : T.mg "_law_truths" = some (.ref a__law_truths)
  a__law_square_right : Addr
  d__law_square_right : FuncData
  F__law_square_right : Fun T.K "_law_square_right" "_law_square_right" s__law_square_right a__law_square_right d__law_square_right
  b__law_square_right : Binds T.K d__law_square_right ["_law_square"] []
  g__law_square_right : T.mg "_law_square_right" = some (.ref a__law_square_right)
  a__law_no_of : Addr
  d__law_no_of : FuncData
  F__law_no_of : Fun T.K "_law_no_of" "_law_no_of" s__law_no_of a__law_no_of d__law_no_of
  b__law_no_of : Binds T.K d__law_no_of ["_law_ask"] []
  g__law_no_of : T.mg "_law_no_of" = some (.ref a__law_no_of)
  a__law_made_promises : Addr
  d__law_made_promises : FuncData
  F__law_made_promises : Fun T.K "_law_made_promises" "_law_made_promises" s__law_made_promises a__law_made_promises d__law_made_promises
  b__law_made_promises : Binds T.K d__law_made_promises [] []
  g__law_made_promises : T.mg "_law_made_promises" = some (.ref a__law_made_promises)
  a__law_promises_right : Addr
  d__law_promises_right : FuncData
  F__law_promises_right : Fun T.K "_law_promises_right" "_law_promises_right" s__law_promises_right a__law_promises_right d__law_promises_right
  b__law_promises_right : Binds T.K d__law_promises_right [] []
  g__law_promises_right : T.mg "_law_promises_right" = some (.ref a__law_promises_right)
  a__law_others_promises : Addr
  d__law_others_promises : FuncData
  F__law_others_promises : Fun T.K "_law_others_promises" "_law_others_promises" s__law_others_promises a__law_others_promises d__law_others_promises
  b__law_others_promises : Binds T.K d__law_others_promises ["_law_two"] []
  g__law_others_promises : T.mg "_law_others_promises" = some (.ref a__law_others_promises)
  a_law : Addr
  d_law : FuncData
  F_law : Fun T.K "law" "law" s_law a_law d_law
  b_law : Binds T.K d_law ["_law_script"] []
  g_law : T.mg "law" = some (.ref a_law)
  c_SquareError : Addr
  g_SquareError : T.mg "SquareError" = some (.ref c_SquareError)
  x_SquareError : PySem.W.excIn T.K c_SquareError [.type "ValueError", .type "Exception", .type "BaseException", .type "object"] "ValueError.__new__" = true
  k_SquareError : PySem.W.keepIn T.K (.ref c_SquareError) = true
  s_SquareError : PySem.W.subIn T.K (.ref c_SquareError) (.type "BaseException") = some true
  t_SquareError : PySem.W.typeIn T.K (.ref c_SquareError) = some (.type "type")
  c_BadOrder : Addr
  g_BadOrder : T.mg "BadOrder" = some (.ref c_BadOrder)
  x_BadOrder : PySem.W.excIn T.K c_BadOrder [.type "ValueError", .type "Exception", .type "BaseException", .type "object"] "ValueError.__new__" = true
  k_BadOrder : PySem.W.keepIn T.K (.ref c_BadOrder) = true
  s_BadOrder : PySem.W.subIn T.K (.ref c_BadOrder) (.type "BaseException") = some true
  t_BadOrder : PySem.W.typeIn T.K (.ref c_BadOrder) = some (.type "type")
  c_BadPlace : Addr
  g_BadPlace : T.mg "BadPlace" = some (.ref c_BadPlace)
  x_BadPlace : PySem.W.excIn T.K c_BadPlace [.type "ValueError", .type "Exception", .type "BaseException", .type "object"] "ValueError.__new__" = true
  k_BadPlace : PySem.W.keepIn T.K (.ref c_BadPlace) = true
  s_BadPlace : PySem.W.subIn T.K (.ref c_BadPlace) (.type "BaseException") = some true
  t_BadPlace : PySem.W.typeIn T.K (.ref c_BadPlace) = some (.type "type")
  c_BadNumber : Addr
  g_BadNumber : T.mg "BadNumber" = some (.ref c_BadNumber)
  x_BadNumber : PySem.W.excIn T.K c_BadNumber [.type "ValueError", .type "Exception", .type "BaseException", .type "object"] "ValueError.__new__" = true
  k_BadNumber : PySem.W.keepIn T.K (.ref c_BadNumber) = true
  s_BadNumber : PySem.W.subIn T.K (.ref c_BadNumber) (.type "BaseException") = some true
  t_BadNumber : PySem.W.typeIn T.K (.ref c_BadNumber) = some (.type "type")
  c_BadSquare : Addr
  g_BadSquare : T.mg "BadSquare" = some (.ref c_BadSquare)
  x_BadSquare : PySem.W.excIn T.K c_BadSquare [.type "ValueError", .type "Exception", .type "BaseException", .type "object"] "ValueError.__new__" = true
  k_BadSquare : PySem.W.keepIn T.K (.ref c_BadSquare) = true
  s_BadSquare : PySem.W.subIn T.K (.ref c_BadSquare) (.type "BaseException") = some true
  t_BadSquare : PySem.W.typeIn T.K (.ref c_BadSquare) = some (.type "type")
  c_NotEven : Addr
  g_NotEven : T.mg "NotEven" = some (.ref c_NotEven)
  x_NotEven : PySem.W.excIn T.K c_NotEven [.type "ValueError", .type "Exception", .type "BaseException", .type "object"] "ValueError.__new__" = true
  k_NotEven : PySem.W.keepIn T.K (.ref c_NotEven) = true
  s_NotEven : PySem.W.subIn T.K (.ref c_NotEven) (.type "BaseException") = some true
  t_NotEven : PySem.W.typeIn T.K (.ref c_NotEven) = some (.type "type")
  c_TooGreat : Addr
  g_TooGreat : T.mg "TooGreat" = some (.ref c_TooGreat)
  x_TooGreat : PySem.W.excIn T.K c_TooGreat [.type "ValueError", .type "Exception", .type "BaseException", .type "object"] "ValueError.__new__" = true
  k_TooGreat : PySem.W.keepIn T.K (.ref c_TooGreat) = true
  s_TooGreat : PySem.W.subIn T.K (.ref c_TooGreat) (.type "BaseException") = some true
  t_TooGreat : PySem.W.typeIn T.K (.ref c_TooGreat) = some (.type "type")
  cc__law_made_promises : Addr
  P__law_made_promises : Addr
  FC__law_made_promises : FunC T.K "_law_made_promises" "_law_made_promises" s__law_made_promises a__law_made_promises d__law_made_promises cc__law_made_promises
  cc__law_others_promises : Addr
  P__law_others_promises : Addr
  FC__law_others_promises : FunC T.K "_law_others_promises" "_law_others_promises" s__law_others_promises a__law_others_promises d__law_others_promises cc__law_others_promises
  ne_P : P__law_made_promises ≠ P__law_others_promises
  ea : T.ea = none
  es : ∀ c : Str, (["BadOrder", "BadPlace", "BadNumber", "BadSquare", "NotEven", "TooGreat"] : List Str).contains c = true → ∀ C, T.mg c = some (.ref C) → PySem.W.exmOne T.K (.ref C) (.ref c_SquareError) = some true ∧ ExcC T.K C ∧ PySem.W.kitOne T.K (.ref C) (.ref c_TooGreat) = some (c == "TooGreat") ∧ PySem.W.kitOne T.K (.ref C) (.ref c_NotEven) = some (c == "NotEven") ∧ True
  ai_Even : Addr
  di_Even : FuncData
  Fi_Even : Fun T.K "__init__" "Even.__init__" si_Even ai_Even di_Even
  bi_Even : Binds T.K di_Even ["self", "total"] []
  K_Even : Mk T.K T.ce ai_Even
  cl_Even : Cls T.K T.ce
  i_Even : IsC T.K T.ce
  g_Even : T.mg "Even" = some (.ref T.ce)
  n_Even_total : NoAttr T.K T.ce "total"
  ai_Unlike : Addr
  di_Unlike : FuncData
  Fi_Unlike : Fun T.K "__init__" "Unlike.__init__" si_Unlike ai_Unlike di_Unlike
  bi_Unlike : Binds T.K di_Unlike ["self", "one", "other"] []
  K_Unlike : Mk T.K T.cu ai_Unlike
  cl_Unlike : Cls T.K T.cu
  i_Unlike : IsC T.K T.cu
  g_Unlike : T.mg "Unlike" = some (.ref T.cu)
  n_Unlike_one : NoAttr T.K T.cu "one"
  n_Unlike_other : NoAttr T.K T.cu "other"
  k1_Even : PySem.W.kitOne T.K (.ref T.ce) (.ref T.ce) = some true
  k2_Even : PySem.W.kitOne T.K (.ref T.cu) (.ref T.ce) = some false
  k1_Unlike : PySem.W.kitOne T.K (.ref T.ce) (.ref T.cu) = some false
  k2_Unlike : PySem.W.kitOne T.K (.ref T.cu) (.ref T.cu) = some true
  q_MOST : Tok
  g_MOST : T.mg "MOST" = some (.int 40 q_MOST)
  a_FOUR : Addr
  g_FOUR : T.mg "FOUR" = some (.ref a_FOUR)
  d_FOUR : KTab T w a_FOUR tab_FOUR
  m_isinstance : T.mg "isinstance" = none
  m_int : T.mg "int" = none
  m_bool : T.mg "bool" = none
  m_list : T.mg "list" = none
  m_len : T.mg "len" = none
  m_all : T.mg "all" = none
  m_range : T.mg "range" = none
  m_sum : T.mg "sum" = none
  m_sorted : T.mg "sorted" = none
  m_zip : T.mg "zip" = none
  m_divmod : T.mg "divmod" = none
  m_tuple : T.mg "tuple" = none
  m_str : T.mg "str" = none
  m_abs : T.mg "abs" = none
  m_enumerate : T.mg "enumerate" = none
section
variable {P : Program} {w : World} {T : Tx} {base : Heap}
theorem ok_init_Even (Z : Tp T w) : FnOk P w T.K T.mg base CX0 1 Z.ai_Even Z.di_Even ["self", "total"] (spInit1 T.ce) := by
  refine Z.Fi_Even.ok sci_Even (fun vs H Q E h => ?_) (fun cdv A outer s H vs Q E hr h => ?_)
  · obtain ⟨p, dx, v, rfl, _⟩ := h; rfl
  · obtain ⟨p, dx, v, rfl, hp, k⟩ := h
    exact ⟨_, pss_one (ps_fld (pv 0) (pv 1) rfl), ⟨v, rfl, .ref p, rfl, p, T.ce, dx, [], rfl, hp, Z.cl_Even, Z.n_Even_total, by decide, k _ upd_same fun b hb => upd_ne hb⟩⟩
theorem ok_init_Unlike (Z : Tp T w) : FnOk P w T.K T.mg base CX0 1 Z.ai_Unlike Z.di_Unlike ["self", "one", "other"] (spInit2 T.cu) := by
  refine Z.Fi_Unlike.ok sci_Unlike (fun vs H Q E h => ?_) (fun cdv A outer s H vs Q E hr h => ?_)
  · obtain ⟨p, dx, v, u, rfl, _⟩ := h; rfl
  · obtain ⟨p, dx, v, u, rfl, hp, k⟩ := h
    refine ⟨_, pss_cons (ps_fld (pv 0) (pv 1) rfl) (pss_one (ps_fld (pv 0) (pv 2) rfl)), ⟨v, rfl, .ref p, rfl, p, T.cu, dx, [], rfl, hp, Z.cl_Unlike, Z.n_Unlike_one, by decide, u, rfl, .ref p, rfl, p, T.cu, dx, _, rfl, upd_same, Z.cl_Unlike, Z.n_Unlike_other, (by show 1 < 1000; decide), k _ ?_ fun b hb => by rw [upd_ne hb, upd_ne hb]⟩⟩
    rw [putF2]
    exact upd_same
theorem ok_is_number (Z : Tp T w) : FnOk P w T.K T.mg base (L2N.CX P w) 1 Z.a_is_number Z.d_is_number ["thing"] (spS T 1 f_is_number) :=
  okD (k := 0) Z.F_is_number sc_is_number fun cdv A outer s H E hr => ss_one (s_ret (full := false) (e_and (e_isi (t := .int) rfl rfl Z.m_isinstance (e_var 0) rfl Z.m_int (by decide +kernel)) (e_one (e_not (e_isi (t := .bool) rfl rfl Z.m_isinstance (e_var 0) rfl Z.m_bool (by decide +kernel))))))
theorem ok_lines (Z : Tp T w) : FnOk P w T.K T.mg base (L2N.CX P w) 1 Z.a_lines Z.d_lines ["order"] (spS T 1 f_lines) :=
  okD (k := 0) Z.F_lines sc_lines fun cdv A outer s H E hr => ss_cons (s_set (full := false) (i := 1) sc_lines.nd rfl (by first | exact Or.inl rfl | exact Or.inr rfl) (e_op rd_add op_addA (e_lc (own := [("at", 2)]) rfl sc_lines.nd (i_range1 rfl Z.m_range (a_cons (e_var 0) (a_nil))) (blkOk_by (N := ["order", "found", "at"]) (sc := defScope s_lines) (by decide +kernel)) tg_name (by decide) (fun _ _ _ _ _ => (pg_name (i := 2) sc_lines.nd rfl (by first | exact Or.inl rfl | exact Or.inr rfl))) (fun _ _ _ _ _ => e_tup (a_cons (e_str) (a_cons (e_var 2) (a_nil))))) (e_lc (own := [("at", 2)]) rfl sc_lines.nd (i_range1 rfl Z.m_range (a_cons (e_var 0) (a_nil))) (blkOk_by (N := ["order", "found", "at"]) (sc := defScope s_lines) (by decide +kernel)) tg_name (by decide) (fun _ _ _ _ _ => (pg_name (i := 2) sc_lines.nd rfl (by first | exact Or.inl rfl | exact Or.inr rfl))) (fun _ _ _ _ _ => e_tup (a_cons (e_str) (a_cons (e_var 2) (a_nil)))))))
    (ss_one (s_ret (full := false) (e_op rd_add op_addA (e_var 1) (e_lst (a_cons (e_tup (a_cons (e_str) (a_cons (e_int) (a_nil)))) (a_cons (e_tup (a_cons (e_str) (a_cons (e_int) (a_nil)))) (a_nil)))))))
theorem ok_sum_along (Z : Tp T w) : FnOk P w T.K T.mg base (L2N.CX P w) 1 Z.a_sum_along Z.d_sum_along ["square", "line"] (spS T 2 f_sum_along) :=
  okD (k := 0) Z.F_sum_along sc_sum_along fun cdv A outer s H E hr => ss_cons (s_tgt (full := false) (e_var 1) (pg_tup rfl (pgs_cons (pg_name (i := 2) sc_sum_along.nd rfl (by first | exact Or.inl rfl | exact Or.inr rfl)) (pgs_cons (pg_name (i := 3) sc_sum_along.nd rfl (by first | exact Or.inl rfl | exact Or.inr rfl)) pgs_nil))) (tg_tup (tgs_cons (tgs_cons tgs_nil))))
    (ss_cons (s_set (full := false) (i := 4) sc_sum_along.nd rfl (by first | exact Or.inl rfl | exact Or.inr rfl) (e_op rd_sub op_sub (e_cb rd_len call_len_seq rfl Z.m_len (by decide +kernel) (a_cons (e_var 0) (a_nil))) (e_int)))
    (ss_cons (s_if (t_cmp rd_eq (op_eqD (hu64 hr)) (e_var 2) (e_str) (nomark _))
    (ss_one (s_ret (full := false) (e_cb rd_sum (cr_sum rfl) rfl Z.m_sum (by decide +kernel) (a_cons (e_ix rfl (e_var 0) (e_var 3)) (a_nil))))) (ss_nil))
    (ss_cons (s_if (t_cmp rd_eq (op_eqD (hu64 hr)) (e_var 2) (e_str) (nomark _))
    (ss_one (s_ret (full := false) (e_cb rd_sum (cr_sum rfl) rfl Z.m_sum (by decide +kernel) (a_cons (e_lc (own := [("row", 6)]) rfl sc_sum_along.nd (i_list rfl (e_var 0)) (blkOk_by (N := ["square", "line", "kind", "at", "last", "step", "row"]) (sc := defScope s_sum_along) (by decide +kernel)) tg_name (by decide) (fun _ _ _ _ _ => (pg_name (i := 6) sc_sum_along.nd rfl (by first | exact Or.inl rfl | exact Or.inr rfl))) (fun _ _ _ _ _ => e_ix rfl (e_var 6) (e_var 3))) (a_nil))))) (ss_nil))
    (ss_cons (s_if (t_cmp rd_eq (op_eqD (hu64 hr)) (e_var 2) (e_str) (nomark _))
    (ss_one (s_ret (full := false) (e_cb rd_sum (cr_sum rfl) rfl Z.m_sum (by decide +kernel) (a_cons (e_lc (own := [("step", 5)]) rfl sc_sum_along.nd (i_range1 rfl Z.m_range (a_cons (e_op rd_add op_addA (e_var 4) (e_int)) (a_nil))) (blkOk_by (N := ["square", "line", "kind", "at", "last", "step", "row"]) (sc := defScope s_sum_along) (by decide +kernel)) tg_name (by decide) (fun _ _ _ _ _ => (pg_name (i := 5) sc_sum_along.nd rfl (by first | exact Or.inl rfl | exact Or.inr rfl))) (fun _ _ _ _ _ => e_ix rfl (e_ix rfl (e_var 0) (e_var 5)) (e_var 5))) (a_nil))))) (ss_nil))
    (ss_one (s_ret (full := false) (e_cb rd_sum (cr_sum rfl) rfl Z.m_sum (by decide +kernel) (a_cons (e_lc (own := [("step", 5)]) rfl sc_sum_along.nd (i_range1 rfl Z.m_range (a_cons (e_op rd_add op_addA (e_var 4) (e_int)) (a_nil))) (blkOk_by (N := ["square", "line", "kind", "at", "last", "step", "row"]) (sc := defScope s_sum_along) (by decide +kernel)) tg_name (by decide) (fun _ _ _ _ _ => (pg_name (i := 5) sc_sum_along.nd rfl (by first | exact Or.inl rfl | exact Or.inr rfl))) (fun _ _ _ _ _ => e_ix rfl (e_ix rfl (e_var 0) (e_op rd_sub op_sub (e_var 4) (e_var 5))) (e_var 5))) (a_nil)))))))))
theorem ok_odd_number (Z : Tp T w) : FnOk P w T.K T.mg base (L2N.CX P w) 1 Z.a_odd_number Z.d_odd_number ["order", "row", "column"] (spS T 3 f_odd_number) :=
  okD (k := 0) Z.F_odd_number sc_odd_number fun cdv A outer s H E hr => ss_cons (s_set (full := false) (i := 3) sc_odd_number.nd rfl (by first | exact Or.inl rfl | exact Or.inr rfl) (e_op rd_div op_fdivW (e_var 0) (e_int)))
    (ss_one (s_ret (full := false) (e_op rd_add op_addA (e_op rd_add op_addA (e_op rd_mul op_mulA (e_op rd_mod op_mod (e_op rd_sub op_sub (e_op rd_add op_addA (e_var 1) (e_var 2)) (e_var 3)) (e_var 0)) (e_var 0)) (e_op rd_mod op_mod (e_op rd_sub op_sub (e_op rd_add op_addA (e_var 1) (e_op rd_mul op_mulA (e_int) (e_var 2))) (e_op rd_mul op_mulA (e_int) (e_var 3))) (e_var 0))) (e_int))))
theorem ok_odd_place (Z : Tp T w) : FnOk P w T.K T.mg base (L2N.CX P w) 1 Z.a_odd_place Z.d_odd_place ["order", "number"] (spS T 2 f_odd_place) :=
  okD (k := 0) Z.F_odd_place sc_odd_place fun cdv A outer s H E hr => ss_cons (s_tgt (full := false) (e_cb rd_divmod call_divmodW rfl Z.m_divmod (by decide +kernel) (a_cons (e_op rd_sub op_sub (e_var 1) (e_int)) (a_cons (e_var 0) (a_nil)))) (pg_tup rfl (pgs_cons (pg_name (i := 2) sc_odd_place.nd rfl (by first | exact Or.inl rfl | exact Or.inr rfl)) (pgs_cons (pg_name (i := 3) sc_odd_place.nd rfl (by first | exact Or.inl rfl | exact Or.inr rfl)) pgs_nil))) (tg_tup (tgs_cons (tgs_cons tgs_nil))))
    (ss_one (s_ret (full := false) (e_tup (a_cons (e_op rd_mod op_mod (e_op rd_sub op_sub (e_op rd_mul op_mulA (e_int) (e_var 2)) (e_var 3)) (e_var 0)) (a_cons (e_op rd_mod op_mod (e_op rd_add op_addA (e_op rd_sub op_sub (e_op rd_div op_fdivW (e_var 0) (e_int)) (e_var 2)) (e_var 3)) (e_var 0)) (a_nil))))))
theorem ok_letter (Z : Tp T w) : FnOk P w T.K T.mg base (L2N.CX P w) 1 Z.a_letter Z.d_letter ["order", "row", "column"] (spS T 3 f_letter) :=
  okD (k := 0) Z.F_letter sc_letter fun cdv A outer s H E hr => ss_cons (s_set (full := false) (i := 3) sc_letter.nd rfl (by first | exact Or.inl rfl | exact Or.inr rfl) (e_op rd_div op_fdivW (e_var 0) (e_int)))
    (ss_cons (s_if (PW.pt (w_and (t_cmp rd_eq (op_eqD (hu64 hr)) (e_var 2) (e_var 3) (nomark _)) (w_and1 (t_cmp rd_in (op_inA (hu65 hr)) (e_var 1) (e_tup (a_cons (e_var 3) (a_cons (e_op rd_add op_addA (e_var 3) (e_int)) (a_nil)))) rfl))))
    (ss_one (s_set (full := false) (i := 1) sc_letter.nd rfl (by first | exact Or.inl rfl | exact Or.inr rfl) (e_op rd_sub op_sub (e_op rd_add op_addA (e_op rd_mul op_mulA (e_int) (e_var 3)) (e_int)) (e_var 1)))) (ss_nil))
    (ss_one (s_ret (full := false) (e_if (t_cmp rd_le op_le (e_var 1) (e_var 3) (nomark _)) (e_str) (e_if (t_cmp rd_eq (op_eqD (hu64 hr)) (e_var 1) (e_op rd_add op_addA (e_var 3) (e_int)) (nomark _)) (e_str) (e_str))))))
theorem ok_is_back (Z : Tp T w) : FnOk P w T.K T.mg base (L2N.CX P w) 1 Z.a_is_back Z.d_is_back ["row", "column"] (spS T 2 f_is_back) :=
  okD (k := 0) Z.F_is_back sc_is_back fun cdv A outer s H E hr => ss_one (s_ret (full := false) (e_or (e_cmp rd_eq (op_eqD (hu64 hr)) (e_op rd_mod op_mod (e_var 0) (e_int)) (e_op rd_mod op_mod (e_var 1) (e_int)) (nomark _)) (e_one (e_cmp rd_eq (op_eqD (hu64 hr)) (e_op rd_add op_addA (e_op rd_mod op_mod (e_var 0) (e_int)) (e_op rd_mod op_mod (e_var 1) (e_int))) (e_int) (nomark _)))))
theorem ok__law_number (Z : Tp T w) : FnOk P w T.K T.mg base (L2N.CX P w) 1 Z.a__law_number Z.d__law_number ["_law_cell", "_law_at", "_law_mixed"] (spS T 3 f__law_number) :=
  okD (k := 0) Z.F__law_number sc__law_number fun cdv A outer s H E hr => ss_cons (s_if (t_cmp rd_ge op_ge (e_var 0) (e_op rd_pow op_pow (e_int) (e_int)) (nomark _))
    (ss_one (s_ret (full := false) (e_op rd_div op_fdivW (e_var 0) (e_op rd_add op_addA (e_int) (e_op rd_mod op_mod (e_var 1) (e_int)))))) (ss_nil))
    (ss_cons (s_set (full := false) (i := 3) sc__law_number.nd rfl (by first | exact Or.inl rfl | exact Or.inr rfl) (e_op rd_mod op_mod (e_op rd_add op_addA (e_op rd_mul op_mulA (e_op rd_add op_addA (e_var 0) (e_op rd_mul op_mulA (e_int) (e_var 1))) (e_int)) (e_var 2)) (e_int)))
    (ss_cons (s_set (full := false) (i := 4) sc__law_number.nd rfl (by first | exact Or.inl rfl | exact Or.inr rfl) (e_op rd_mul op_mulA (e_var 3) (e_op rd_add op_addA (e_op rd_add op_addA (e_var 0) (e_op rd_mul op_mulA (e_int) (e_var 1))) (e_int))))
    (ss_one (s_ret (full := false) (e_op rd_div op_fdivW (e_op rd_mul op_mulA (e_op rd_mul op_mulA (e_var 4) (e_op rd_add op_addA (e_op rd_add op_addA (e_var 3) (e_var 0)) (e_int))) (e_op rd_add op_addA (e_op rd_mul op_mulA (e_var 3) (e_var 3)) (e_int))) (e_op rd_add op_addA (e_int) (e_var 1)))))))
theorem ok__law_truths (Z : Tp T w) : FnOk P w T.K T.mg base (L2N.CX P w) 1 Z.a__law_truths Z.d__law_truths ["_law_things"] (spS T 1 f__law_truths) :=
  okD (k := 0) Z.F__law_truths sc__law_truths fun cdv A outer s H E hr => ss_one (s_ret (full := false) (e_cb rd_all (cr_all rfl) rfl Z.m_all (by decide +kernel) (a_cons (e_lc (own := [("_law_one", 1)]) rfl sc__law_truths.nd (i_list rfl (e_var 0)) (blkOk_by (N := ["_law_things", "_law_one"]) (sc := defScope s__law_truths) (by decide +kernel)) tg_name (by decide) (fun _ _ _ _ _ => (pg_name (i := 1) sc__law_truths.nd rfl (by first | exact Or.inl rfl | exact Or.inr rfl))) (fun _ _ _ _ _ => e_isi (t := .bool) rfl rfl Z.m_isinstance (e_var 1) rfl Z.m_bool (by decide +kernel))) (a_nil))))
theorem ok_asked_square (Z : Tp T w) : FnOk P w T.K T.mg base (L2N.CX P w) 2 Z.a_asked_square Z.d_asked_square ["square"] (spS T 1 f_asked_square) :=
  okD (k := 1) Z.F_asked_square sc_asked_square fun cdv A outer s H E hr => ss_cons (s_if (PW.pt (w_or (t_not (t_val (e_isi (t := .list) rfl rfl Z.m_isinstance (e_var 0) rfl Z.m_list (by decide +kernel)))) (w_or1 (t_cmp rd_eq (op_eqD (hu64 hr)) (e_var 0) (e_lst (a_nil)) (nomark _)))))
    (ss_one (s_raise rfl rfl (L2N.takes_of rfl rfl rfl rfl) PySem.F.excBase_ValueError Z.x_BadSquare Z.g_BadSquare Z.k_BadSquare (raises_own Z.s_BadSquare Z.t_BadSquare) rfl)) (ss_nil))
    (ss_one (s_for (passes_of rfl) rfl (i_list rfl (e_var 0)) (pg_name (i := 1) sc_asked_square.nd rfl (by first | exact Or.inl rfl | exact Or.inr rfl)) tg_name
    (ss_one (s_if (PW.pt (w_or (t_not (t_val (e_isi (t := .list) rfl rfl Z.m_isinstance (e_var 1) rfl Z.m_list (by decide +kernel)))) (w_or (t_cmp rd_ne (op_neD (hu64 hr)) (e_cb rd_len call_len_seq rfl Z.m_len (by decide +kernel) (a_cons (e_var 1) (a_nil))) (e_cb rd_len call_len_seq rfl Z.m_len (by decide +kernel) (a_cons (e_var 0) (a_nil))) (nomark _)) (w_or1 (t_not (t_val (e_cb rd_all (cr_all rfl) rfl Z.m_all (by decide +kernel) (a_cons (e_lc (own := [("one", 2)]) rfl sc_asked_square.nd (i_list rfl (e_var 1)) (blkOk_by (N := ["square", "row", "one"]) (sc := defScope s_asked_square) (by decide +kernel)) tg_name (by decide) (fun _ _ _ _ _ => (pg_name (i := 2) sc_asked_square.nd rfl (by first | exact Or.inl rfl | exact Or.inr rfl))) (fun _ _ _ _ _ => e_call (ok_is_number Z) (hr.mono (by decide)) rfl Z.g_is_number Z.F_is_number.kp Z.b_is_number takesN (a_cons (e_var 2) (a_nil)) (len_cons len_nil))) (a_nil)))))))))
    (ss_one (s_raise rfl rfl (L2N.takes_of rfl rfl rfl rfl) PySem.F.excBase_ValueError Z.x_BadSquare Z.g_BadSquare Z.k_BadSquare (raises_own Z.s_BadSquare Z.t_BadSquare) rfl)) (ss_nil)))))
theorem ok_Even_shows (Z : Tp T w) : FnOk P w T.K T.mg base (L2N.CX P w) 2 Z.a_Even_shows Z.d_Even_shows ["self", "square"] (spS T 2 f_Even_shows) :=
  okD (k := 1) Z.F_Even_shows sc_Even_shows fun cdv A outer s H E hr => ss_one (s_ret (full := false) (e_cb rd_all (cr_all rfl) rfl Z.m_all (by decide +kernel) (a_cons (e_lc (own := [("line", 2)]) rfl sc_Even_shows.nd (i_list rfl (e_call (ok_lines Z) (hr.mono (by decide)) rfl Z.g_lines Z.F_lines.kp Z.b_lines (L2N.takes_of rfl rfl rfl rfl) (a_cons (e_cb rd_len call_len_seq rfl Z.m_len (by decide +kernel) (a_cons (e_var 1) (a_nil))) (a_nil)) (len_cons len_nil))) (blkOk_by (N := ["self", "square", "line"]) (sc := defScope s_Even_shows) (by decide +kernel)) tg_name (by decide) (fun _ _ _ _ _ => (pg_name (i := 2) sc_Even_shows.nd rfl (by first | exact Or.inl rfl | exact Or.inr rfl))) (fun _ _ _ _ _ => e_cmp rd_eq (op_eqD (hu64 hr)) (e_call (ok_sum_along Z) (hr.mono (by decide)) rfl Z.g_sum_along Z.F_sum_along.kp Z.b_sum_along takesN (a_cons (e_var 1) (a_cons (e_var 2) (a_nil))) (len_cons (len_cons len_nil))) (e_total rfl Z.cl_Even Z.n_Even_total (e_var 0)) (nomark _))) (a_nil))))
theorem ok_Unlike_shows (Z : Tp T w) : FnOk P w T.K T.mg base (L2N.CX P w) 2 Z.a_Unlike_shows Z.d_Unlike_shows ["self", "square"] (spS T 2 f_Unlike_shows) :=
  okD (k := 1) Z.F_Unlike_shows sc_Unlike_shows fun cdv A outer s H E hr => ss_cons (s_set (full := false) (i := 2) sc_Unlike_shows.nd rfl (by first | exact Or.inl rfl | exact Or.inr rfl) (e_call (ok_lines Z) (hr.mono (by decide)) rfl Z.g_lines Z.F_lines.kp Z.b_lines (L2N.takes_of rfl rfl rfl rfl) (a_cons (e_cb rd_len call_len_seq rfl Z.m_len (by decide +kernel) (a_cons (e_var 1) (a_nil))) (a_nil)) (len_cons len_nil)))
    (ss_cons (s_if (PW.pt (w_or (t_cmp rd_notIn (op_notInA (hu65 hr)) (e_one_ rfl Z.cl_Unlike Z.n_Unlike_one (e_var 0)) (e_var 2) rfl) (w_or1 (t_cmp rd_notIn (op_notInA (hu65 hr)) (e_other rfl Z.cl_Unlike Z.n_Unlike_other (e_var 0)) (e_var 2) rfl))))
    (ss_one (s_ret (full := false) (e_bl))) (ss_nil))
    (ss_one (s_ret (full := false) (e_cmp rd_ne (op_neD (hu64 hr)) (e_call (ok_sum_along Z) (hr.mono (by decide)) rfl Z.g_sum_along Z.F_sum_along.kp Z.b_sum_along (L2N.takes_of rfl rfl rfl rfl) (a_cons (e_var 1) (a_cons (e_one_ rfl Z.cl_Unlike Z.n_Unlike_one (e_var 0)) (a_nil))) (len_cons (len_cons len_nil))) (e_call (ok_sum_along Z) (hr.mono (by decide)) rfl Z.g_sum_along Z.F_sum_along.kp Z.b_sum_along (L2N.takes_of rfl rfl rfl rfl) (a_cons (e_var 1) (a_cons (e_other rfl Z.cl_Unlike Z.n_Unlike_other (e_var 0)) (a_nil))) (len_cons (len_cons len_nil))) (nomark _)))))
theorem ok_three (Z : Tp T w) : FnOk P w T.K T.mg base (L2N.CX P w) 2 Z.a_three Z.d_three ["middle", "one", "other"] (spS T 3 f_three) :=
  okD (k := 1) Z.F_three sc_three fun cdv A outer s H E hr => ss_cons (s_if (PW.pt (w_or (t_not (t_val (e_call (ok_is_number Z) (hr.mono (by decide)) rfl Z.g_is_number Z.F_is_number.kp Z.b_is_number (L2N.takes_of rfl rfl rfl rfl) (a_cons (e_var 0) (a_nil)) (len_cons len_nil)))) (w_or (t_not (t_val (e_call (ok_is_number Z) (hr.mono (by decide)) rfl Z.g_is_number Z.F_is_number.kp Z.b_is_number (L2N.takes_of rfl rfl rfl rfl) (a_cons (e_var 1) (a_nil)) (len_cons len_nil)))) (w_or1 (t_not (t_val (e_call (ok_is_number Z) (hr.mono (by decide)) rfl Z.g_is_number Z.F_is_number.kp Z.b_is_number (L2N.takes_of rfl rfl rfl rfl) (a_cons (e_var 2) (a_nil)) (len_cons len_nil))))))))
    (ss_one (s_raise rfl rfl (L2N.takes_of rfl rfl rfl rfl) PySem.F.excBase_ValueError Z.x_BadNumber Z.g_BadNumber Z.k_BadNumber (raises_own Z.s_BadNumber Z.t_BadNumber) rfl)) (ss_nil))
    (ss_cons (s_set (full := false) (i := 3) sc_three.nd rfl (by first | exact Or.inl rfl | exact Or.inr rfl) (e_lst (a_cons (e_op rd_add op_addA (e_var 0) (e_var 1)) (a_cons (e_op rd_sub op_sub (e_op rd_sub op_sub (e_var 0) (e_var 1)) (e_var 2)) (a_cons (e_op rd_add op_addA (e_var 0) (e_var 2)) (a_nil))))))
    (ss_cons (s_set (full := false) (i := 4) sc_three.nd rfl (by first | exact Or.inl rfl | exact Or.inr rfl) (e_lst (a_cons (e_op rd_add op_addA (e_op rd_sub op_sub (e_var 0) (e_var 1)) (e_var 2)) (a_cons (e_var 0) (a_cons (e_op rd_sub op_sub (e_op rd_add op_addA (e_var 0) (e_var 1)) (e_var 2)) (a_nil))))))
    (ss_one (s_ret (full := false) (e_lst (a_cons (e_var 3) (a_cons (e_var 4) (a_cons (e_lst (a_cons (e_op rd_sub op_sub (e_var 0) (e_var 2)) (a_cons (e_op rd_add op_addA (e_op rd_add op_addA (e_var 0) (e_var 1)) (e_var 2)) (a_cons (e_op rd_sub op_sub (e_var 0) (e_var 1)) (a_nil))))) (a_nil)))))))))
theorem ok_asked_order (Z : Tp T w) : FnOk P w T.K T.mg base (L2N.CX P w) 2 Z.a_asked_order Z.d_asked_order ["order"] (spS T 1 f_asked_order) :=
  okD (k := 1) Z.F_asked_order sc_asked_order fun cdv A outer s H E hr => ss_one (s_if (PW.pt (w_or (t_not (t_val (e_call (ok_is_number Z) (hr.mono (by decide)) rfl Z.g_is_number Z.F_is_number.kp Z.b_is_number (L2N.takes_of rfl rfl rfl rfl) (a_cons (e_var 0) (a_nil)) (len_cons len_nil)))) (w_or (t_cmp rd_lt op_lt (e_var 0) (e_int) (nomark _)) (w_or1 (t_cmp rd_eq (op_eqD (hu64 hr)) (e_var 0) (e_int) (nomark _))))))
    (ss_one (s_raise rfl rfl (L2N.takes_of rfl rfl rfl rfl) PySem.F.excBase_ValueError Z.x_BadOrder Z.g_BadOrder Z.k_BadOrder (raises_own Z.s_BadOrder Z.t_BadOrder) rfl)) (ss_nil))
theorem ok_number_of (Z : Tp T w) : FnOk P w T.K T.mg base (L2N.CX P w) 2 Z.a_number_of Z.d_number_of ["order", "row", "column"] (spS T 3 f_number_of) :=
  okD (k := 1) Z.F_number_of sc_number_of fun cdv A outer s H E hr => ss_cons (s_if (t_cmp rd_eq (op_eqD (hu64 hr)) (e_op rd_mod op_mod (e_var 0) (e_int)) (e_int) (nomark _))
    (ss_one (s_ret (full := false) (e_call (ok_odd_number Z) (hr.mono (by decide)) rfl Z.g_odd_number Z.F_odd_number.kp Z.b_odd_number (L2N.takes_of rfl rfl rfl rfl) (a_cons (e_var 0) (a_cons (e_var 1) (a_cons (e_var 2) (a_nil)))) (len_cons (len_cons (len_cons len_nil)))))) (ss_nil))
    (ss_cons (s_if (t_cmp rd_eq (op_eqD (hu64 hr)) (e_op rd_mod op_mod (e_var 0) (e_int)) (e_int) (nomark _))
    (ss_cons (s_set (full := false) (i := 7) sc_number_of.nd rfl (by first | exact Or.inl rfl | exact Or.inr rfl) (e_op rd_add op_addA (e_op rd_add op_addA (e_op rd_mul op_mulA (e_var 1) (e_var 0)) (e_var 2)) (e_int)))
    (ss_one (s_ret (full := false) (e_if (t_val (e_call (ok_is_back Z) (hr.mono (by decide)) rfl Z.g_is_back Z.F_is_back.kp Z.b_is_back (L2N.takes_of rfl rfl rfl rfl) (a_cons (e_var 1) (a_cons (e_var 2) (a_nil))) (len_cons (len_cons len_nil)))) (e_op rd_sub op_sub (e_op rd_add op_addA (e_op rd_mul op_mulA (e_var 0) (e_var 0)) (e_int)) (e_var 7)) (e_var 7))))) (ss_nil))
    (ss_cons (s_set (full := false) (i := 3) sc_number_of.nd rfl (by first | exact Or.inl rfl | exact Or.inr rfl) (e_op rd_div op_fdivW (e_var 0) (e_int)))
    (ss_cons (s_par rfl sc_number_of.nd rfl rfl (by decide) rfl rfl (a_cons (e_op rd_div op_fdivW (e_var 1) (e_int)) (a_cons (e_op rd_div op_fdivW (e_var 2) (e_int)) (a_nil))))
    (ss_cons (s_set (full := false) (i := 6) sc_number_of.nd rfl (by first | exact Or.inl rfl | exact Or.inr rfl) (e_tab rfl Z.d_FOUR rfl Z.g_FOUR (e_call (ok_letter Z) (hr.mono (by decide)) rfl Z.g_letter Z.F_letter.kp Z.b_letter (L2N.takes_of rfl rfl rfl rfl) (a_cons (e_var 3) (a_cons (e_var 4) (a_cons (e_var 5) (a_nil)))) (len_cons (len_cons (len_cons len_nil))))))
    (ss_one (s_ret (full := false) (e_op rd_add op_addA (e_op rd_sub op_sub (e_op rd_mul op_mulA (e_int) (e_call (ok_odd_number Z) (hr.mono (by decide)) rfl Z.g_odd_number Z.F_odd_number.kp Z.b_odd_number (L2N.takes_of rfl rfl rfl rfl) (a_cons (e_var 3) (a_cons (e_var 4) (a_cons (e_var 5) (a_nil)))) (len_cons (len_cons (len_cons len_nil))))) (e_int)) (e_indexT rfl (pe_bm PySem.F.plainAttrs_tuple PySem.F.slot_tuple_index PySem.F.type_tuple_index (mt_indexT (hu65 hr)) (e_var 6) (pa_cons (e_tup (a_cons (e_op rd_mod op_mod (e_var 1) (e_int)) (a_cons (e_op rd_mod op_mod (e_var 2) (e_int)) (a_nil)))) pa_nil))))))))))
theorem ok_whole (Z : Tp T w) : FnOk P w T.K T.mg base (L2N.CX P w) 3 Z.a_whole Z.d_whole ["square"] (spS T 1 f_whole) :=
  okD (k := 2) Z.F_whole sc_whole fun cdv A outer s H E hr => ss_cons (s_expr (e_call (ok_asked_square Z) (hr.mono (by decide)) rfl Z.g_asked_square Z.F_asked_square.kp Z.b_asked_square (L2N.takes_of rfl rfl rfl rfl) (a_cons (e_var 0) (a_nil)) (len_cons len_nil)))
    (ss_cons (s_own (full := false) (i := 1) sc_whole.nd rfl (by first | exact Or.inl rfl | exact Or.inr rfl) (e_lst (a_nil)))
    (ss_cons (s_for (passes_of rfl) rfl (i_list rfl (e_var 0)) (pg_name (i := 2) sc_whole.nd rfl (by first | exact Or.inl rfl | exact Or.inr rfl)) tg_name
    (ss_one (s_ext (full := false) (ps_expr (pe_bm PySem.F.plainAttrs_list PySem.F.slot_list_extend PySem.F.type_list_extend mt_extend (pv 1) (pa_cons (e_var 2) pa_nil))))))
    (ss_one (s_ret (full := true) (e_cmp rd_eq (op_eqD (hu64 hr)) (e_cb rd_sorted cr_sortedI rfl Z.m_sorted (by decide +kernel) (a_cons (e_var 1) (a_nil))) (e_listR rfl rfl Z.m_list rfl Z.m_range (a_cons (e_int) (a_cons (e_op rd_add op_addA (e_op rd_mul op_mulA (e_cb rd_len call_len_seq rfl Z.m_len (by decide +kernel) (a_cons (e_var 0) (a_nil))) (e_cb rd_len call_len_seq rfl Z.m_len (by decide +kernel) (a_cons (e_var 0) (a_nil)))) (e_int)) (a_nil)))) (nomark _))))))
theorem ok_turned (Z : Tp T w) : FnOk P w T.K T.mg base (L2N.CX P w) 3 Z.a_turned Z.d_turned ["square", "way"] (spS T 2 f_turned) :=
  okD (k := 2) Z.F_turned sc_turned fun cdv A outer s H E hr => ss_cons (s_expr (e_call (ok_asked_square Z) (hr.mono (by decide)) rfl Z.g_asked_square Z.F_asked_square.kp Z.b_asked_square (L2N.takes_of rfl rfl rfl rfl) (a_cons (e_var 0) (a_nil)) (len_cons len_nil)))
    (ss_cons (s_if (PW.pt (w_or (t_not (t_val (e_call (ok_is_number Z) (hr.mono (by decide)) rfl Z.g_is_number Z.F_is_number.kp Z.b_is_number (L2N.takes_of rfl rfl rfl rfl) (a_cons (e_var 1) (a_nil)) (len_cons len_nil)))) (w_or1 (t_not (t_chain rd_le rd_lt op_le op_lt (e_int) (e_var 1) (e_int))))))
    (ss_one (s_raise rfl rfl (L2N.takes_of rfl rfl rfl rfl) PySem.F.excBase_ValueError Z.x_BadNumber Z.g_BadNumber Z.k_BadNumber (raises_own Z.s_BadNumber Z.t_BadNumber) rfl)) (ss_nil))
    (ss_cons (s_own (full := false) (i := 2) sc_turned.nd rfl (by first | exact Or.inl rfl | exact Or.inr rfl) (e_lc2 (own := [("row", 4)]) rfl sc_turned.nd (i_list rfl (e_var 0)) (blkOk_by (N := ["square", "way", "found", "turn", "row", "at"]) (sc := defScope s_turned) (by decide +kernel)) tg_name (by decide) (fun _ _ _ _ _ => (pg_name (i := 4) sc_turned.nd rfl (by first | exact Or.inl rfl | exact Or.inr rfl))) (fun _ _ _ _ _ => e_ct rd_list call_list_of rfl Z.m_list (by decide +kernel) (a_cons (e_var 4) (a_nil)))))
    (ss_cons (s_if (t_cmp rd_gt op_gt (e_var 1) (e_int) (nomark _))
    (ss_one (s_own (full := true) (i := 2) sc_turned.nd rfl (by first | exact Or.inl rfl | exact Or.inr rfl) (e_lc2 (own := [("at", 5)]) rfl sc_turned.nd (i_range1 rfl Z.m_range (a_cons (e_cb rd_len call_len_seq rfl Z.m_len (by decide +kernel) (a_cons (e_var 2) (a_nil))) (a_nil))) (blkOk_by (N := ["square", "way", "found", "turn", "row", "at"]) (sc := defScope s_turned) (by decide +kernel)) tg_name (by decide) (fun _ _ _ _ _ => (pg_name (i := 5) sc_turned.nd rfl (by first | exact Or.inl rfl | exact Or.inr rfl))) (fun _ _ _ _ _ => e_lc (own := [("row", 4)]) rfl sc_turned.nd (i_list rfl (e_var 2)) (blkOk_by (by kernel_rfl)) tg_name (by decide) (fun _ _ _ _ _ => (pg_name (i := 4) sc_turned.nd rfl (by first | exact Or.inl rfl | exact Or.inr rfl))) (fun _ _ _ _ _ => e_ix rfl (e_var 4) (e_var 5)))))) (ss_nil))
    (ss_cons (s_for (passes_of rfl) rfl (i_range1 rfl Z.m_range (a_cons (e_op rd_mod op_mod (e_var 1) (e_int)) (a_nil))) (pg_name (i := 3) sc_turned.nd rfl (by first | exact Or.inl rfl | exact Or.inr rfl)) tg_name
    (ss_one (s_own (full := true) (i := 2) sc_turned.nd rfl (by first | exact Or.inl rfl | exact Or.inr rfl) (e_lc2 (own := [("at", 5)]) rfl sc_turned.nd (i_range1 rfl Z.m_range (a_cons (e_cb rd_len call_len_seq rfl Z.m_len (by decide +kernel) (a_cons (e_var 2) (a_nil))) (a_nil))) (blkOk_by (N := ["square", "way", "found", "turn", "row", "at"]) (sc := defScope s_turned) (by decide +kernel)) tg_name (by decide) (fun _ _ _ _ _ => (pg_name (i := 5) sc_turned.nd rfl (by first | exact Or.inl rfl | exact Or.inr rfl))) (fun _ _ _ _ _ => e_lc (own := [("row", 4)]) rfl sc_turned.nd (i_list rfl (e_rev rfl (e_var 2))) (blkOk_by (by kernel_rfl)) tg_name (by decide) (fun _ _ _ _ _ => (pg_name (i := 4) sc_turned.nd rfl (by first | exact Or.inl rfl | exact Or.inr rfl))) (fun _ _ _ _ _ => e_ix rfl (e_var 4) (e_var 5)))))))
    (ss_one (s_retVar 2))))))
theorem ok_other_way (Z : Tp T w) : FnOk P w T.K T.mg base (L2N.CX P w) 3 Z.a_other_way Z.d_other_way ["square"] (spS T 1 f_other_way) :=
  okD (k := 2) Z.F_other_way sc_other_way fun cdv A outer s H E hr => ss_cons (s_expr (e_call (ok_asked_square Z) (hr.mono (by decide)) rfl Z.g_asked_square Z.F_asked_square.kp Z.b_asked_square (L2N.takes_of rfl rfl rfl rfl) (a_cons (e_var 0) (a_nil)) (len_cons len_nil)))
    (ss_cons (s_set (full := false) (i := 1) sc_other_way.nd rfl (by first | exact Or.inl rfl | exact Or.inr rfl) (e_op rd_add op_addA (e_op rd_mul op_mulA (e_cb rd_len call_len_seq rfl Z.m_len (by decide +kernel) (a_cons (e_var 0) (a_nil))) (e_cb rd_len call_len_seq rfl Z.m_len (by decide +kernel) (a_cons (e_var 0) (a_nil)))) (e_int)))
    (ss_one (s_ret (full := false) (e_lc2 (own := [("row", 2)]) rfl sc_other_way.nd (i_list rfl (e_var 0)) (blkOk_by (N := ["square", "most", "row", "one"]) (sc := defScope s_other_way) (by decide +kernel)) tg_name (by decide) (fun _ _ _ _ _ => (pg_name (i := 2) sc_other_way.nd rfl (by first | exact Or.inl rfl | exact Or.inr rfl))) (fun _ _ _ _ _ => e_lc (own := [("one", 3)]) rfl sc_other_way.nd (i_list rfl (e_var 2)) (blkOk_by (by kernel_rfl)) tg_name (by decide) (fun _ _ _ _ _ => (pg_name (i := 3) sc_other_way.nd rfl (by first | exact Or.inl rfl | exact Or.inr rfl))) (fun _ _ _ _ _ => e_op rd_sub op_sub (e_var 1) (e_var 3)))))))
theorem ok_put_together (Z : Tp T w) : FnOk P w T.K T.mg base (L2N.CX P w) 3 Z.a_put_together Z.d_put_together ["one", "other", "times"] (spS T 3 f_put_together) :=
  okD (k := 2) Z.F_put_together sc_put_together fun cdv A outer s H E hr => ss_cons (s_expr (e_call (ok_asked_square Z) (hr.mono (by decide)) rfl Z.g_asked_square Z.F_asked_square.kp Z.b_asked_square (L2N.takes_of rfl rfl rfl rfl) (a_cons (e_var 0) (a_nil)) (len_cons len_nil)))
    (ss_cons (s_expr (e_call (ok_asked_square Z) (hr.mono (by decide)) rfl Z.g_asked_square Z.F_asked_square.kp Z.b_asked_square (L2N.takes_of rfl rfl rfl rfl) (a_cons (e_var 1) (a_nil)) (len_cons len_nil)))
    (ss_cons (s_if (t_cmp rd_ne (op_neD (hu64 hr)) (e_cb rd_len call_len_seq rfl Z.m_len (by decide +kernel) (a_cons (e_var 0) (a_nil))) (e_cb rd_len call_len_seq rfl Z.m_len (by decide +kernel) (a_cons (e_var 1) (a_nil))) (nomark _))
    (ss_one (s_raise rfl rfl (L2N.takes_of rfl rfl rfl rfl) PySem.F.excBase_ValueError Z.x_BadSquare Z.g_BadSquare Z.k_BadSquare (raises_own Z.s_BadSquare Z.t_BadSquare) rfl)) (ss_nil))
    (ss_cons (s_if (t_not (t_val (e_call (ok_is_number Z) (hr.mono (by decide)) rfl Z.g_is_number Z.F_is_number.kp Z.b_is_number (L2N.takes_of rfl rfl rfl rfl) (a_cons (e_var 2) (a_nil)) (len_cons len_nil))))
    (ss_one (s_raise rfl rfl (L2N.takes_of rfl rfl rfl rfl) PySem.F.excBase_ValueError Z.x_BadNumber Z.g_BadNumber Z.k_BadNumber (raises_own Z.s_BadNumber Z.t_BadNumber) rfl)) (ss_nil))
    (ss_one (s_ret (full := false) (e_lc2 (own := [("here", 3), ("there", 4)]) rfl sc_put_together.nd (i_zip rfl rfl Z.m_zip (a_cons (e_var 0) (a_cons (e_var 1) (a_nil)))) (blkOk_by (N := ["one", "other", "times", "here", "there", "mine", "theirs"]) (sc := defScope s_put_together) (by decide +kernel)) (tg_tup (tgs_cons (tgs_cons tgs_nil))) (by decide) (fun _ _ _ _ _ => (pg_tup rfl (pgs_cons (pg_name (i := 3) sc_put_together.nd rfl (by first | exact Or.inl rfl | exact Or.inr rfl)) (pgs_cons (pg_name (i := 4) sc_put_together.nd rfl (by first | exact Or.inl rfl | exact Or.inr rfl)) pgs_nil)))) (fun _ _ _ _ _ => e_lc (own := [("mine", 5), ("theirs", 6)]) rfl sc_put_together.nd (i_zip rfl rfl Z.m_zip (a_cons (e_var 3) (a_cons (e_var 4) (a_nil)))) (blkOk_by (by kernel_rfl)) (tg_tup (tgs_cons (tgs_cons tgs_nil))) (by decide) (fun _ _ _ _ _ => (pg_tup rfl (pgs_cons (pg_name (i := 5) sc_put_together.nd rfl (by first | exact Or.inl rfl | exact Or.inr rfl)) (pgs_cons (pg_name (i := 6) sc_put_together.nd rfl (by first | exact Or.inl rfl | exact Or.inr rfl)) pgs_nil)))) (fun _ _ _ _ _ => e_op rd_add op_addA (e_var 5) (e_op rd_mul op_mulA (e_var 2) (e_var 6))))))))))
theorem ok_product (Z : Tp T w) : FnOk P w T.K T.mg base (L2N.CX P w) 3 Z.a_product Z.d_product ["one", "other"] (spS T 2 f_product) :=
  okD (k := 2) Z.F_product sc_product fun cdv A outer s H E hr => ss_cons (s_expr (e_call (ok_asked_square Z) (hr.mono (by decide)) rfl Z.g_asked_square Z.F_asked_square.kp Z.b_asked_square (L2N.takes_of rfl rfl rfl rfl) (a_cons (e_var 0) (a_nil)) (len_cons len_nil)))
    (ss_cons (s_expr (e_call (ok_asked_square Z) (hr.mono (by decide)) rfl Z.g_asked_square Z.F_asked_square.kp Z.b_asked_square (L2N.takes_of rfl rfl rfl rfl) (a_cons (e_var 1) (a_nil)) (len_cons len_nil)))
    (ss_cons (s_set (full := false) (i := 2) sc_product.nd rfl (by first | exact Or.inl rfl | exact Or.inr rfl) (e_op rd_mul op_mulA (e_cb rd_len call_len_seq rfl Z.m_len (by decide +kernel) (a_cons (e_var 1) (a_nil))) (e_cb rd_len call_len_seq rfl Z.m_len (by decide +kernel) (a_cons (e_var 1) (a_nil)))))
    (ss_cons (s_own (full := false) (i := 3) sc_product.nd rfl (by first | exact Or.inl rfl | exact Or.inr rfl) (e_lst (a_nil)))
    (ss_cons (s_for (passes_of rfl) rfl (i_list rfl (e_var 0)) (pg_name (i := 4) sc_product.nd rfl (by first | exact Or.inl rfl | exact Or.inr rfl)) tg_name
    (ss_one (s_for (passes_of rfl) rfl (i_list rfl (e_var 1)) (pg_name (i := 5) sc_product.nd rfl (by first | exact Or.inl rfl | exact Or.inr rfl)) tg_name
    (ss_cons (s_own (full := false) (i := 6) sc_product.nd rfl (by first | exact Or.inl rfl | exact Or.inr rfl) (e_lst (a_nil)))
    (ss_cons (s_for (passes_of rfl) rfl (i_list rfl (e_var 4)) (pg_name (i := 7) sc_product.nd rfl (by first | exact Or.inl rfl | exact Or.inr rfl)) tg_name
    (ss_one (s_ext (full := false) (ps_expr (pe_bm PySem.F.plainAttrs_list PySem.F.slot_list_extend PySem.F.type_list_extend mt_extend (pv 6) (pa_cons (e_lc (own := [("small", 8)]) rfl sc_product.nd (i_list rfl (e_var 5)) (blkOk_by (N := ["one", "other", "size", "found", "high", "low", "row", "number", "small"]) (sc := defScope s_product) (by decide +kernel)) tg_name (by decide) (fun _ _ _ _ _ => (pg_name (i := 8) sc_product.nd rfl (by first | exact Or.inl rfl | exact Or.inr rfl))) (fun _ _ _ _ _ => e_op rd_add op_addA (e_op rd_mul op_mulA (e_op rd_sub op_sub (e_var 7) (e_int)) (e_var 2)) (e_var 8))) pa_nil))))))
    (ss_one (s_move (ps_expr (pe_bm PySem.F.plainAttrs_list PySem.F.slot_list_append PySem.F.type_list_append mt_append (pv 3) (pa_cons (pv 6) pa_nil))))))))))
    (ss_one (s_retVar 3))))))
theorem ok_told (Z : Tp T w) : FnOk P w T.K T.mg base (L2N.CX P w) 3 Z.a_told Z.d_told ["square"] (spS T 1 f_told) :=
  okD (k := 2) Z.F_told sc_told fun cdv A outer s H E hr => ss_cons (s_expr (e_call (ok_asked_square Z) (hr.mono (by decide)) rfl Z.g_asked_square Z.F_asked_square.kp Z.b_asked_square (L2N.takes_of rfl rfl rfl rfl) (a_cons (e_var 0) (a_nil)) (len_cons len_nil)))
    (ss_cons (s_set (full := false) (i := 1) sc_told.nd rfl (by first | exact Or.inl rfl | exact Or.inr rfl) (e_tup (a_cons (e_str) (a_cons (e_int) (a_nil)))))
    (ss_cons (s_set (full := false) (i := 2) sc_told.nd rfl (by first | exact Or.inl rfl | exact Or.inr rfl) (e_call (ok_sum_along Z) (hr.mono (by decide)) rfl Z.g_sum_along Z.F_sum_along.kp Z.b_sum_along (L2N.takes_of rfl rfl rfl rfl) (a_cons (e_var 0) (a_cons (e_var 1) (a_nil))) (len_cons (len_cons len_nil))))
    (ss_cons (s_for (passes_of rfl) rfl (i_list rfl (e_call (ok_lines Z) (hr.mono (by decide)) rfl Z.g_lines Z.F_lines.kp Z.b_lines (L2N.takes_of rfl rfl rfl rfl) (a_cons (e_cb rd_len call_len_seq rfl Z.m_len (by decide +kernel) (a_cons (e_var 0) (a_nil))) (a_nil)) (len_cons len_nil))) (pg_name (i := 3) sc_told.nd rfl (by first | exact Or.inl rfl | exact Or.inr rfl)) tg_name
    (ss_one (s_if (t_cmp rd_ne (op_neD (hu64 hr)) (e_call (ok_sum_along Z) (hr.mono (by decide)) rfl Z.g_sum_along Z.F_sum_along.kp Z.b_sum_along (L2N.takes_of rfl rfl rfl rfl) (a_cons (e_var 0) (a_cons (e_var 3) (a_nil))) (len_cons (len_cons len_nil))) (e_var 2) (nomark _))
    (ss_one (s_ret (full := false) (e_unl Z.K_Unlike (ok_init_Unlike Z) (hr.mono (by decide)) rfl Z.g_Unlike Z.bi_Unlike (a_cons (e_var 1) (a_cons (e_var 3) (a_nil)))))) (ss_nil))))
    (ss_one (s_ret (full := false) (e_even Z.K_Even (ok_init_Even Z) (hr.mono (by decide)) rfl Z.g_Even Z.bi_Even (a_cons (e_var 2) (a_nil))))))))
theorem ok_number_at (Z : Tp T w) : FnOk P w T.K T.mg base (L2N.CX P w) 3 Z.a_number_at Z.d_number_at ["order", "row", "column"] (spS T 3 f_number_at) :=
  okD (k := 2) Z.F_number_at sc_number_at fun cdv A outer s H E hr => ss_cons (s_expr (e_call (ok_asked_order Z) (hr.mono (by decide)) rfl Z.g_asked_order Z.F_asked_order.kp Z.b_asked_order (L2N.takes_of rfl rfl rfl rfl) (a_cons (e_var 0) (a_nil)) (len_cons len_nil)))
    (ss_cons (s_for (passes_of rfl) rfl (i_tup rfl (e_tup (a_cons (e_var 1) (a_cons (e_var 2) (a_nil))))) (pg_name (i := 3) sc_number_at.nd rfl (by first | exact Or.inl rfl | exact Or.inr rfl)) tg_name
    (ss_one (s_if (PW.pt (w_or (t_not (t_val (e_call (ok_is_number Z) (hr.mono (by decide)) rfl Z.g_is_number Z.F_is_number.kp Z.b_is_number (L2N.takes_of rfl rfl rfl rfl) (a_cons (e_var 3) (a_nil)) (len_cons len_nil)))) (w_or1 (t_not (t_chain rd_le rd_lt op_le op_lt (e_int) (e_var 3) (e_var 0))))))
    (ss_one (s_raise rfl rfl (L2N.takes_of rfl rfl rfl rfl) PySem.F.excBase_ValueError Z.x_BadPlace Z.g_BadPlace Z.k_BadPlace (raises_own Z.s_BadPlace Z.t_BadPlace) rfl)) (ss_nil))))
    (ss_one (s_ret (full := false) (e_call (ok_number_of Z) (hr.mono (by decide)) rfl Z.g_number_of Z.F_number_of.kp Z.b_number_of (L2N.takes_of rfl rfl rfl rfl) (a_cons (e_var 0) (a_cons (e_var 1) (a_cons (e_var 2) (a_nil)))) (len_cons (len_cons (len_cons len_nil)))))))
theorem ok_place_of (Z : Tp T w) : FnOk P w T.K T.mg base (L2N.CX P w) 3 Z.a_place_of Z.d_place_of ["order", "number"] (spS T 2 f_place_of) :=
  okD (k := 2) Z.F_place_of sc_place_of fun cdv A outer s H E hr => ss_cons (s_expr (e_call (ok_asked_order Z) (hr.mono (by decide)) rfl Z.g_asked_order Z.F_asked_order.kp Z.b_asked_order (L2N.takes_of rfl rfl rfl rfl) (a_cons (e_var 0) (a_nil)) (len_cons len_nil)))
    (ss_cons (s_if (PW.pt (w_or (t_not (t_val (e_call (ok_is_number Z) (hr.mono (by decide)) rfl Z.g_is_number Z.F_is_number.kp Z.b_is_number (L2N.takes_of rfl rfl rfl rfl) (a_cons (e_var 1) (a_nil)) (len_cons len_nil)))) (w_or1 (t_not (t_chain rd_le rd_le op_le op_le (e_int) (e_var 1) (e_op rd_mul op_mulA (e_var 0) (e_var 0)))))))
    (ss_one (s_raise rfl rfl (L2N.takes_of rfl rfl rfl rfl) PySem.F.excBase_ValueError Z.x_BadNumber Z.g_BadNumber Z.k_BadNumber (raises_own Z.s_BadNumber Z.t_BadNumber) rfl)) (ss_nil))
    (ss_cons (s_if (t_cmp rd_eq (op_eqD (hu64 hr)) (e_op rd_mod op_mod (e_var 0) (e_int)) (e_int) (nomark _))
    (ss_one (s_ret (full := false) (e_call (ok_odd_place Z) (hr.mono (by decide)) rfl Z.g_odd_place Z.F_odd_place.kp Z.b_odd_place (L2N.takes_of rfl rfl rfl rfl) (a_cons (e_var 0) (a_cons (e_var 1) (a_nil))) (len_cons (len_cons len_nil))))) (ss_nil))
    (ss_cons (s_if (t_cmp rd_eq (op_eqD (hu64 hr)) (e_op rd_mod op_mod (e_var 0) (e_int)) (e_int) (nomark _))
    (ss_cons (s_tgt (full := false) (e_cb rd_divmod call_divmodW rfl Z.m_divmod (by decide +kernel) (a_cons (e_op rd_sub op_sub (e_var 1) (e_int)) (a_cons (e_var 0) (a_nil)))) (pg_tup rfl (pgs_cons (pg_name (i := 6) sc_place_of.nd rfl (by first | exact Or.inl rfl | exact Or.inr rfl)) (pgs_cons (pg_name (i := 7) sc_place_of.nd rfl (by first | exact Or.inl rfl | exact Or.inr rfl)) pgs_nil))) (tg_tup (tgs_cons (tgs_cons tgs_nil))))
    (ss_one (s_ret (full := false) (e_if (t_val (e_call (ok_is_back Z) (hr.mono (by decide)) rfl Z.g_is_back Z.F_is_back.kp Z.b_is_back (L2N.takes_of rfl rfl rfl rfl) (a_cons (e_var 6) (a_cons (e_var 7) (a_nil))) (len_cons (len_cons len_nil)))) (e_tup (a_cons (e_op rd_sub op_sub (e_op rd_sub op_sub (e_var 0) (e_int)) (e_var 6)) (a_cons (e_op rd_sub op_sub (e_op rd_sub op_sub (e_var 0) (e_int)) (e_var 7)) (a_nil)))) (e_tup (a_cons (e_var 6) (a_cons (e_var 7) (a_nil)))))))) (ss_nil))
    (ss_cons (s_tgt (full := false) (e_call (ok_odd_place Z) (hr.mono (by decide)) rfl Z.g_odd_place Z.F_odd_place.kp Z.b_odd_place (L2N.takes_of rfl rfl rfl rfl) (a_cons (e_op rd_div op_fdivW (e_var 0) (e_int)) (a_cons (e_op rd_div op_fdivW (e_op rd_add op_addA (e_var 1) (e_int)) (e_int)) (a_nil))) (len_cons (len_cons len_nil))) (pg_tup rfl (pgs_cons (pg_name (i := 2) sc_place_of.nd rfl (by first | exact Or.inl rfl | exact Or.inr rfl)) (pgs_cons (pg_name (i := 3) sc_place_of.nd rfl (by first | exact Or.inl rfl | exact Or.inr rfl)) pgs_nil))) (tg_tup (tgs_cons (tgs_cons tgs_nil))))
    (ss_cons (s_tgt (full := false) (e_ix rfl (e_tab rfl Z.d_FOUR rfl Z.g_FOUR (e_call (ok_letter Z) (hr.mono (by decide)) rfl Z.g_letter Z.F_letter.kp Z.b_letter (L2N.takes_of rfl rfl rfl rfl) (a_cons (e_op rd_div op_fdivW (e_var 0) (e_int)) (a_cons (e_var 2) (a_cons (e_var 3) (a_nil)))) (len_cons (len_cons (len_cons len_nil))))) (e_op rd_mod op_mod (e_op rd_add op_addA (e_var 1) (e_int)) (e_int))) (pg_tup rfl (pgs_cons (pg_name (i := 4) sc_place_of.nd rfl (by first | exact Or.inl rfl | exact Or.inr rfl)) (pgs_cons (pg_name (i := 5) sc_place_of.nd rfl (by first | exact Or.inl rfl | exact Or.inr rfl)) pgs_nil))) (tg_tup (tgs_cons (tgs_cons tgs_nil))))
    (ss_one (s_ret (full := false) (e_tup (a_cons (e_op rd_add op_addA (e_op rd_mul op_mulA (e_int) (e_var 2)) (e_var 4)) (a_cons (e_op rd_add op_addA (e_op rd_mul op_mulA (e_int) (e_var 3)) (e_var 5)) (a_nil)))))))))))
theorem ok_made (Z : Tp T w) : FnOk P w T.K T.mg base (L2N.CX P w) 3 Z.a_made Z.d_made ["order"] (spS T 1 f_made) :=
  okD (k := 2) Z.F_made sc_made fun cdv A outer s H E hr => ss_cons (s_expr (e_call (ok_asked_order Z) (hr.mono (by decide)) rfl Z.g_asked_order Z.F_asked_order.kp Z.b_asked_order (L2N.takes_of rfl rfl rfl rfl) (a_cons (e_var 0) (a_nil)) (len_cons len_nil)))
    (ss_cons (s_if (t_cmp rd_gt op_gt (e_var 0) (e_globI rfl Z.g_MOST) (nomark _))
    (ss_one (s_raise rfl rfl (L2N.takes_of rfl rfl rfl rfl) PySem.F.excBase_ValueError Z.x_TooGreat Z.g_TooGreat Z.k_TooGreat (raises_own Z.s_TooGreat Z.t_TooGreat) rfl)) (ss_nil))
    (ss_one (s_ret (full := false) (e_lc2 (own := [("row", 1)]) rfl sc_made.nd (i_range1 rfl Z.m_range (a_cons (e_var 0) (a_nil))) (blkOk_by (N := ["order", "row", "column"]) (sc := defScope s_made) (by decide +kernel)) tg_name (by decide) (fun _ _ _ _ _ => (pg_name (i := 1) sc_made.nd rfl (by first | exact Or.inl rfl | exact Or.inr rfl))) (fun _ _ _ _ _ => e_lc (own := [("column", 2)]) rfl sc_made.nd (i_range1 rfl Z.m_range (a_cons (e_var 0) (a_nil))) (blkOk_by (by kernel_rfl)) tg_name (by decide) (fun _ _ _ _ _ => (pg_name (i := 2) sc_made.nd rfl (by first | exact Or.inl rfl | exact Or.inr rfl))) (fun _ _ _ _ _ => e_call (ok_number_of Z) (hr.mono (by decide)) rfl Z.g_number_of Z.F_number_of.kp Z.b_number_of takesN (a_cons (e_var 0) (a_cons (e_var 1) (a_cons (e_var 2) (a_nil)))) (len_cons (len_cons (len_cons len_nil)))))))))
theorem ok_total (Z : Tp T w) : FnOk P w T.K T.mg base (L2N.CX P w) 3 Z.a_total Z.d_total ["order"] (spS T 1 f_total) :=
  okD (k := 2) Z.F_total sc_total fun cdv A outer s H E hr => ss_cons (s_expr (e_call (ok_asked_order Z) (hr.mono (by decide)) rfl Z.g_asked_order Z.F_asked_order.kp Z.b_asked_order (L2N.takes_of rfl rfl rfl rfl) (a_cons (e_var 0) (a_nil)) (len_cons len_nil)))
    (ss_one (s_ret (full := false) (e_op rd_div op_fdivW (e_op rd_mul op_mulA (e_var 0) (e_op rd_add op_addA (e_op rd_mul op_mulA (e_var 0) (e_var 0)) (e_int))) (e_int))))
theorem ok_parts (Z : Tp T w) : FnOk P w T.K T.mg base (L2N.CX P w) 4 Z.a_parts Z.d_parts ["square"] (spS T 1 f_parts) :=
  okD (k := 3) Z.F_parts sc_parts fun cdv A outer s H E hr => ss_cons (s_expr (e_call (ok_asked_square Z) (hr.mono (by decide)) rfl Z.g_asked_square Z.F_asked_square.kp Z.b_asked_square (L2N.takes_of rfl rfl rfl rfl) (a_cons (e_var 0) (a_nil)) (len_cons len_nil)))
    (ss_cons (s_if (PW.pt (w_or (t_cmp rd_ne (op_neD (hu64 hr)) (e_cb rd_len call_len_seq rfl Z.m_len (by decide +kernel) (a_cons (e_var 0) (a_nil))) (e_int) (nomark _)) (w_or1 (t_not (t_val (e_isC (b1 := true) (b2 := false) rfl Z.i_Even Z.i_Unlike Z.k1_Even Z.k2_Even rfl Z.m_isinstance (e_call (ok_told Z) (hr.mono (by decide)) rfl Z.g_told Z.F_told.kp Z.b_told (L2N.takes_of rfl rfl rfl rfl) (a_cons (e_var 0) (a_nil)) (len_cons len_nil)) rfl Z.g_Even))))))
    (ss_one (s_raise rfl rfl (L2N.takes_of rfl rfl rfl rfl) PySem.F.excBase_ValueError Z.x_NotEven Z.g_NotEven Z.k_NotEven (raises_own Z.s_NotEven Z.t_NotEven) rfl)) (ss_nil))
    (ss_cons (s_set (full := false) (i := 1) sc_parts.nd rfl (by first | exact Or.inl rfl | exact Or.inr rfl) (e_ix rfl (e_ix rfl (e_var 0) (e_int)) (e_int)))
    (ss_one (s_ret (full := false) (e_tup (a_cons (e_var 1) (a_cons (e_op rd_sub op_sub (e_ix rfl (e_ix rfl (e_var 0) (e_int)) (e_int)) (e_var 1)) (a_cons (e_op rd_sub op_sub (e_ix rfl (e_ix rfl (e_var 0) (e_int)) (e_int)) (e_var 1)) (a_nil)))))))))
theorem ok__law_plain (Z : Tp T w) : ∀ n : Nat, FnOk P w T.K T.mg base (L2N.CX P w) (n + 1) Z.a__law_plain Z.d__law_plain ["_law_thing"] (spS T 1 (f__law_plain n))
  | 0 => ok_no
  | n + 1 => okD (k := n + 1) Z.F__law_plain sc__law_plain fun cdv A outer s H E hr => ss_cons (s_if (PW.pt (w_or (t_val (e_isi (t := .list) rfl rfl Z.m_isinstance (e_var 0) rfl Z.m_list (by decide +kernel))) (w_or1 (t_val (e_isi (t := .tuple) rfl rfl Z.m_isinstance (e_var 0) rfl Z.m_tuple (by decide +kernel))))))
    (ss_one (s_ret (full := false) (e_cb rd_all (cr_all rfl) rfl Z.m_all (by decide +kernel) (a_cons (e_lc (own := [("_law_one", 1)]) rfl sc__law_plain.nd (i_seq rfl (e_var 0)) (blkOk_by (N := ["_law_thing", "_law_one"]) (sc := defScope s__law_plain) (by decide +kernel)) tg_name (by decide) (fun _ _ _ _ _ => (pg_name (i := 1) sc__law_plain.nd rfl (by first | exact Or.inl rfl | exact Or.inr rfl))) (fun _ _ _ _ _ => e_call (ok__law_plain Z n) hr rfl Z.g__law_plain Z.F__law_plain.kp Z.b__law_plain takesN (a_cons (e_var 1) (a_nil)) (len_cons len_nil))) (a_nil))))) (ss_nil))
    (ss_one (s_ret (full := false) (e_or (e_cmp rd_isN op_isN (e_var 0) (e_non) (nomark _)) (e_or (e_isi (t := .str) rfl rfl Z.m_isinstance (e_var 0) rfl Z.m_str (by decide +kernel)) (e_one (e_and (e_isi (t := .int) rfl rfl Z.m_isinstance (e_var 0) rfl Z.m_int (by decide +kernel)) (e_one (e_not (e_isi (t := .bool) rfl rfl Z.m_isinstance (e_var 0) rfl Z.m_bool (by decide +kernel))))))))))
theorem ok__law_square_right (Z : Tp T w) : FnOk P w T.K T.mg base (L2N.CX P w) 8 Z.a__law_square_right Z.d__law_square_right ["_law_square"] (spS T 1 f__law_square_right) :=
  okD (k := 7) Z.F__law_square_right sc__law_square_right fun cdv A outer s H E hr => ss_cons (s_set (full := false) (i := 1) sc__law_square_right.nd rfl (by first | exact Or.inl rfl | exact Or.inr rfl) (e_call (ok_told Z) (hr.mono (by decide)) rfl Z.g_told Z.F_told.kp Z.b_told (L2N.takes_of rfl rfl rfl rfl) (a_cons (e_var 0) (a_nil)) (len_cons len_nil)))
    (ss_cons (s_set (full := false) (i := 2) sc__law_square_right.nd rfl (by first | exact Or.inl rfl | exact Or.inr rfl) (e_if (t_val (e_isC (b1 := true) (b2 := false) rfl Z.i_Even Z.i_Unlike Z.k1_Even Z.k2_Even rfl Z.m_isinstance (e_var 1) rfl Z.g_Even)) (e_lst (a_cons (e_total rfl Z.cl_Even Z.n_Even_total (e_var 1)) (a_nil))) (e_lst (a_cons (e_one_ rfl Z.cl_Unlike Z.n_Unlike_one (e_var 1)) (a_cons (e_other rfl Z.cl_Unlike Z.n_Unlike_other (e_var 1)) (a_nil))))))
    (ss_cons (s_set (full := false) (i := 2) sc__law_square_right.nd rfl (by first | exact Or.inl rfl | exact Or.inr rfl) (e_op rd_add op_addA (e_var 2) (e_lst (a_cons (e_call (ok_turned Z) (hr.mono (by decide)) rfl Z.g_turned Z.F_turned.kp Z.b_turned (L2N.takes_of rfl rfl rfl rfl) (a_cons (e_var 0) (a_cons (e_int) (a_nil))) (len_cons (len_cons len_nil))) (a_cons (e_call (ok_other_way Z) (hr.mono (by decide)) rfl Z.g_other_way Z.F_other_way.kp Z.b_other_way (L2N.takes_of rfl rfl rfl rfl) (a_cons (e_var 0) (a_nil)) (len_cons len_nil)) (a_nil))))))
    (ss_cons (s_lc (own := [("_law_built", 4)]) (i := 3) (set_core (full := false)) (lc_core1 tg_name (by decide)) rfl sc__law_square_right.nd rfl rfl (sw_true rfl rfl rfl (by decide +kernel)) (i_list rfl (e_lst (a_cons (e_var 1) (a_cons (e_even Z.K_Even (ok_init_Even Z) (hr.mono (by decide)) rfl Z.g_Even Z.bi_Even (a_cons (e_int) (a_nil))) (a_cons (e_unl Z.K_Unlike (ok_init_Unlike Z) (hr.mono (by decide)) rfl Z.g_Unlike Z.bi_Unlike (a_cons (e_tup (a_cons (e_str) (a_cons (e_int) (a_nil)))) (a_cons (e_tup (a_cons (e_str) (a_cons (e_int) (a_nil)))) (a_nil)))) (a_nil)))))) (blkOk_by (N := ["_law_square", "_law_answer", "_law_found", "_law_shown", "_law_built"]) (sc := defScope s__law_square_right) (by decide +kernel)) (fun _ _ _ _ _ => (pg_name (i := 4) sc__law_square_right.nd rfl (by first | exact Or.inl rfl | exact Or.inr rfl))) (fun _ _ _ _ _ => e_shows (len_cons len_nil) (pe_meth (e_var 4) Z.cl_Even Z.M_Even_shows (ok_Even_shows Z) (hr.mono (by decide)) Z.b_Even_shows .nil passF (a_cons (e_var 0) (a_nil))) (pe_meth (e_var 4) Z.cl_Unlike Z.M_Unlike_shows (ok_Unlike_shows Z) (hr.mono (by decide)) Z.b_Unlike_shows .nil passF (a_cons (e_var 0) (a_nil)))))
    (ss_one (s_ret (full := false) (e_and (e_call (ok__law_plain Z 6) (hr.mono (by decide)) rfl Z.g__law_plain Z.F__law_plain.kp Z.b__law_plain (L2N.takes_of rfl rfl rfl rfl) (a_cons (e_var 2) (a_nil)) (len_cons len_nil)) (e_one (e_call (ok__law_truths Z) (hr.mono (by decide)) rfl Z.g__law_truths Z.F__law_truths.kp Z.b__law_truths (L2N.takes_of rfl rfl rfl rfl) (a_cons (e_var 3) (a_nil)) (len_cons len_nil)))))))))
abbrev Tbs (Z : Tp T w) : List (Addr × Str) := [(Z.P__law_made_promises, ("_law_made_promises" : Str) ++ ".<locals>." ++ "<lambda>"), (Z.P__law_others_promises, ("_law_others_promises" : Str) ++ ".<locals>." ++ "<lambda>")]
theorem mp1 : gMP1 (([] : List Da).map Sl.sh ++ List.replicate (["_law_great", "_law_order", "_law_square", "_law_number_here", "_law_lots", "_law_row", "_law_column"].length - ([] : List Da).length) Sl.dead) = .nx [.sh (.int 1000000000000000000000000000000), .dead, .dead, .dead, .dead, .dead, .dead] := by kernel_rfl
theorem mp2 : tMP [.sh (.int 1000000000000000000000000000000), .dead, .dead, .dead, .dead, .dead, .dead] = .ok false := by kernel_rfl
theorem mp3 : eMP [.sh (.int 1000000000000000000000000000000), .dead, .dead, .dead, .dead, .dead, .dead] = .ex "TooGreat" := by kernel_rfl
theorem mp4 : gMP2 [.sh (.int 1000000000000000000000000000000), .dead, .dead, .dead, .dead, .dead, .dead] = .rt (.sh (.bl true)) := by kernel_rfl
theorem ok__law_made_promises (Z : Tp T w) (B1 : LamX.TabB base T.mg Z.cc__law_made_promises Z.P__law_made_promises) : FnOk P w T.K T.mg base (L2N.CX P w) 6 Z.a__law_made_promises Z.d__law_made_promises [] (spC T (Tbs Z) []) := by
  refine okC (k := 5) Z.FC__law_made_promises sc__law_made_promises (fun vs H Q E h => spC_len h) fun A outer s H vs Q E hr h => ?_
  obtain ⟨oc, od, kV, doc, pm, an, cdv, ct, osl, efd, lk, hcd⟩ := Z.F__law_no_of.ex
  have hbN := Z.b__law_no_of
  rw [efd] at lk hbN
  have hcN : (["BadOrder", "BadPlace", "BadNumber", "BadSquare", "NotEven", "TooGreat"] : List Str).contains "TooGreat" = true := by decide +kernel
  refine ⟨_, ss_then2 (s_set (full := false) (i := 0) sc__law_made_promises.nd rfl (by first | exact Or.inl rfl | exact Or.inr rfl) (e_op rd_pow op_pow (e_int) (e_int)))
    (ss_then2 (s_if (PW.pt (w_or (t_cmp rd_ne (op_neD (hu64 hr)) (e_call (ok_made Z) (hr.mono (by decide)) rfl Z.g_made Z.F_made.kp Z.b_made (L2N.takes_of rfl rfl rfl rfl) (a_cons (e_int) (a_nil)) (len_cons len_nil)) (e_lst (a_cons (e_lst (a_cons (e_int) (a_nil))) (a_nil))) (nomark _)) (w_or1 (t_cmp rd_ne (op_neD (hu64 hr)) (e_call (ok_made Z) (hr.mono (by decide)) rfl Z.g_made Z.F_made.kp Z.b_made (L2N.takes_of rfl rfl rfl rfl) (a_cons (e_int) (a_nil)) (len_cons len_nil)) (e_lst (a_cons (e_lst (a_cons (e_int) (a_cons (e_int) (a_cons (e_int) (a_nil))))) (a_cons (e_lst (a_cons (e_int) (a_cons (e_int) (a_cons (e_int) (a_nil))))) (a_cons (e_lst (a_cons (e_int) (a_cons (e_int) (a_cons (e_int) (a_nil))))) (a_nil))))) (nomark _)))))
    (ss_one (s_ret (full := false) (e_bl))) (ss_nil))
    (ss_then (s_if (t_cmp rd_ne (op_neD (hu64 hr)) (e_call (ok_made Z) (hr.mono (by decide)) rfl Z.g_made Z.F_made.kp Z.b_made (L2N.takes_of rfl rfl rfl rfl) (a_cons (e_int) (a_nil)) (len_cons len_nil)) (e_lst (a_cons (e_lst (a_cons (e_int) (a_cons (e_int) (a_cons (e_int) (a_cons (e_int) (a_nil)))))) (a_cons (e_lst (a_cons (e_int) (a_cons (e_int) (a_cons (e_int) (a_cons (e_int) (a_nil)))))) (a_cons (e_lst (a_cons (e_int) (a_cons (e_int) (a_cons (e_int) (a_cons (e_int) (a_nil)))))) (a_cons (e_lst (a_cons (e_int) (a_cons (e_int) (a_cons (e_int) (a_cons (e_int) (a_nil)))))) (a_nil)))))) (nomark _))
    (ss_one (s_ret (full := false) (e_bl))) (ss_nil))
    (pss_cons (ps_if (PW.pt (pw_or (fixW (T := T) (W := fun cls d _ H => E cls d H) (t_cmp rd_ne (op_neD (hu64 hr)) (e_lc (own := [("_law_order", 1)]) rfl sc__law_made_promises.nd (i_tup rfl (e_tup (a_cons (e_int) (a_cons (e_int) (a_cons (e_int) (a_cons (e_int) (a_cons (e_int) (a_nil)))))))) (blkOk_by (N := ["_law_great", "_law_order", "_law_square", "_law_number_here", "_law_lots", "_law_row", "_law_column"]) (sc := defScope s__law_made_promises) (by decide +kernel)) tg_name (by decide) (fun _ _ _ _ _ => (pg_name (i := 1) sc__law_made_promises.nd rfl (by first | exact Or.inl rfl | exact Or.inr rfl))) (fun _ _ _ _ _ => e_call (ok_total Z) (hr.mono (by decide)) rfl Z.g_total Z.F_total.kp Z.b_total takesN (a_cons (e_var 1) (a_nil)) (len_cons len_nil))) (e_lst (a_cons (e_int) (a_cons (e_int) (a_cons (e_int) (a_cons (e_int) (a_cons (e_int) (a_nil))))))) (nomark _))) (pw_or1 (t_no (hu64 hr) (by decide +kernel) (e_lam (fb := eMP) (c := "TooGreat") (w := "great") rfl (LamX.pe_lamcall (T := Tbs Z) (k := 3) rfl Z.g__law_no_of Z.F__law_no_of.kp lk hcd hbN sc__law_no_of rfl (Or.inl rfl) (no_gives (T := T) (W := fun _ _ _ _ => False) (c := "TooGreat") (w := "great") (h := gNO "TooGreat") Z.ea rfl (by decide) rfl rfl rfl Z.g_SquareError (by decide) (fun f => rfl) (fun C hm => (Z.es "TooGreat" hcN C hm).1) (fun C hm s H a oe pn hz hfd => ss_cons (s_set (full := false) (i := 2) sc__law_no_of.nd rfl (by first | exact Or.inl rfl | exact Or.inr rfl) (e_lst (a_cons (e_isE (Z.es "TooGreat" hcN C hm).2.1 hz hfd (Z.es "TooGreat" hcN C hm).2.2.2.1 rfl Z.m_isinstance (e_var 1) rfl Z.g_NotEven) (a_cons (e_isE (Z.es "TooGreat" hcN C hm).2.1 hz hfd (Z.es "TooGreat" hcN C hm).2.2.1 rfl Z.m_isinstance (e_var 1) rfl Z.g_TooGreat) (a_nil)))))
    (ss_one (s_ret (full := false) (e_if (t_cmp rd_eq (op_eqD (have h64 := hu64 (hr.deeper (envOfC "_law_no_of" (defScope s__law_no_of) s.heap.objs.size Z.a__law_no_of cdv)); h64)) (e_cntB rfl (pe_bm PySem.F.plainAttrs_list PySem.F.slot_list_count PySem.F.type_list_count mt_countV (e_var 2) (pa_cons (e_bl) pa_nil))) (e_int) (nomark _)) (e_ix rfl (e_lst (a_cons (e_str) (a_cons (e_str) (a_nil)))) (e_idxB rfl (pe_bm PySem.F.plainAttrs_list PySem.F.slot_list_index PySem.F.type_list_index mt_index (e_var 2) (pa_cons (e_bl) pa_nil)))) (e_str))))) (by kernel_rfl)) B1 rfl (List.mem_cons_self) (fun p hp hP => by
        simp only [List.mem_cons, List.not_mem_nil, or_false] at hp
        rcases hp with rfl | rfl
        · rfl
        · exact absurd hP (Ne.symm Z.ne_P)) (hr.mono (by decide)) (LamX.lamS_by (sc := defScope s__law_made_promises) (by decide +kernel)) rfl (fun _ _ _ _ _ => rfl) (fun A outer s H E f c' hr2 => e_callL (ok_made Z) (hr2.mono (by decide)) rfl Z.g_made Z.F_made.kp Z.b_made (L2.takes_of rfl rfl rfl rfl) (a_cons (e_int) (a_nil)) (len_cons len_nil))))))))
    (ss_one (s_ret (T := T) (W := fun cls d _ H => E cls d H) (full := false) (e_bl))) pss_nil)
    (ss_cons (s_for (passes_of rfl) rfl (i_list rfl (e_lst (a_cons (e_int) (a_cons (e_int) (a_cons (e_int) (a_cons (e_int) (a_cons (e_int) (a_cons (e_int) (a_cons (e_int) (a_cons (e_int) (a_cons (e_int) (a_nil)))))))))))) (pg_name (i := 1) sc__law_made_promises.nd rfl (by first | exact Or.inl rfl | exact Or.inr rfl)) tg_name
    (ss_cons (s_set (full := false) (i := 2) sc__law_made_promises.nd rfl (by first | exact Or.inl rfl | exact Or.inr rfl) (e_call (ok_made Z) (hr.mono (by decide)) rfl Z.g_made Z.F_made.kp Z.b_made (L2N.takes_of rfl rfl rfl rfl) (a_cons (e_var 1) (a_nil)) (len_cons len_nil)))
    (ss_cons (s_if (PW.pt (w_or (t_not (t_val (e_call (ok_whole Z) (hr.mono (by decide)) rfl Z.g_whole Z.F_whole.kp Z.b_whole (L2N.takes_of rfl rfl rfl rfl) (a_cons (e_var 2) (a_nil)) (len_cons len_nil)))) (w_or (t_not (t_val (e_shows (len_cons len_nil) (pe_meth (e_even Z.K_Even (ok_init_Even Z) (hr.mono (by decide)) rfl Z.g_Even Z.bi_Even (a_cons (e_call (ok_total Z) (hr.mono (by decide)) rfl Z.g_total Z.F_total.kp Z.b_total (L2N.takes_of rfl rfl rfl rfl) (a_cons (e_var 1) (a_nil)) (len_cons len_nil)) (a_nil))) Z.cl_Even Z.M_Even_shows (ok_Even_shows Z) (hr.mono (by decide)) Z.b_Even_shows .nil passF (a_cons (e_var 2) (a_nil))) (pe_meth (e_even Z.K_Even (ok_init_Even Z) (hr.mono (by decide)) rfl Z.g_Even Z.bi_Even (a_cons (e_call (ok_total Z) (hr.mono (by decide)) rfl Z.g_total Z.F_total.kp Z.b_total (L2N.takes_of rfl rfl rfl rfl) (a_cons (e_var 1) (a_nil)) (len_cons len_nil)) (a_nil))) Z.cl_Unlike Z.M_Unlike_shows (ok_Unlike_shows Z) (hr.mono (by decide)) Z.b_Unlike_shows .nil passF (a_cons (e_var 2) (a_nil)))))) (w_or1 (t_not (t_val (e_isC (b1 := true) (b2 := false) rfl Z.i_Even Z.i_Unlike Z.k1_Even Z.k2_Even rfl Z.m_isinstance (e_call (ok_told Z) (hr.mono (by decide)) rfl Z.g_told Z.F_told.kp Z.b_told (L2N.takes_of rfl rfl rfl rfl) (a_cons (e_var 2) (a_nil)) (len_cons len_nil)) rfl Z.g_Even)))))))
    (ss_one (s_ret (full := false) (e_bl))) (ss_nil))
    (ss_one (s_for (passes_of rfl) rfl (i_dict (fs := [eC (.int 1), eVar 1, eOp kMul (eVar 1) (eVar 1), eOp kAdd (eOp kDiv (eOp kMul (eVar 1) (eVar 1)) (eC (.int 2))) (eC (.int 1))]) (pps_cons (e_int) e_bl (pps_cons (e_var 1) e_bl (pps_cons (e_op rd_mul op_mulA (e_var 1) (e_var 1)) e_bl (pps_cons (e_op rd_add op_addA (e_op rd_div op_fdivW (e_op rd_mul op_mulA (e_var 1) (e_var 1)) (e_int)) (e_int)) e_bl (pps_nil))))) rfl rfl (fun z => by cases z) (by decide)) (pg_name (i := 3) sc__law_made_promises.nd rfl (by first | exact Or.inl rfl | exact Or.inr rfl)) tg_name
    (ss_cons (s_tgt (full := false) (e_call (ok_place_of Z) (hr.mono (by decide)) rfl Z.g_place_of Z.F_place_of.kp Z.b_place_of (L2N.takes_of rfl rfl rfl rfl) (a_cons (e_var 1) (a_cons (e_var 3) (a_nil))) (len_cons (len_cons len_nil))) (pg_tup rfl (pgs_cons (pg_name (i := 5) sc__law_made_promises.nd rfl (by first | exact Or.inl rfl | exact Or.inr rfl)) (pgs_cons (pg_name (i := 6) sc__law_made_promises.nd rfl (by first | exact Or.inl rfl | exact Or.inr rfl)) pgs_nil))) (tg_tup (tgs_cons (tgs_cons tgs_nil))))
    (ss_one (s_if (PW.pt (w_or (t_cmp rd_ne (op_neD (hu64 hr)) (e_ix rfl (e_ix rfl (e_var 2) (e_var 5)) (e_var 6)) (e_var 3) (nomark _)) (w_or1 (t_cmp rd_ne (op_neD (hu64 hr)) (e_call (ok_number_at Z) (hr.mono (by decide)) rfl Z.g_number_at Z.F_number_at.kp Z.b_number_at (L2N.takes_of rfl rfl rfl rfl) (a_cons (e_var 1) (a_cons (e_var 5) (a_cons (e_var 6) (a_nil)))) (len_cons (len_cons (len_cons len_nil)))) (e_var 3) (nomark _)))))
    (ss_one (s_ret (full := false) (e_bl))) (ss_nil)))))))))
    (ss_cons (s_if (PW.pt (w_or (t_cmp rd_ne (op_neD (hu64 hr)) (e_call (ok_number_at Z) (hr.mono (by decide)) rfl Z.g_number_at Z.F_number_at.kp Z.b_number_at (L2N.takes_of rfl rfl rfl rfl) (a_cons (e_op rd_add op_addA (e_var 0) (e_int)) (a_cons (e_int) (a_cons (e_op rd_div op_fdivW (e_var 0) (e_int)) (a_nil)))) (len_cons (len_cons (len_cons len_nil)))) (e_int) (nomark _)) (w_or1 (t_cmp rd_ne (op_neD (hu64 hr)) (e_call (ok_place_of Z) (hr.mono (by decide)) rfl Z.g_place_of Z.F_place_of.kp Z.b_place_of (L2N.takes_of rfl rfl rfl rfl) (a_cons (e_op rd_add op_addA (e_var 0) (e_int)) (a_cons (e_int) (a_nil))) (len_cons (len_cons len_nil))) (e_tup (a_cons (e_int) (a_cons (e_op rd_div op_fdivW (e_var 0) (e_int)) (a_nil)))) (nomark _)))))
    (ss_one (s_ret (full := false) (e_bl))) (ss_nil))
    (ss_cons (s_if (PW.pt (w_or (t_cmp rd_ne (op_neD (hu64 hr)) (e_call (ok_number_at Z) (hr.mono (by decide)) rfl Z.g_number_at Z.F_number_at.kp Z.b_number_at (L2N.takes_of rfl rfl rfl rfl) (a_cons (e_var 0) (a_cons (e_int) (a_cons (e_int) (a_nil)))) (len_cons (len_cons (len_cons len_nil)))) (e_op rd_mul op_mulA (e_var 0) (e_var 0)) (nomark _)) (w_or1 (t_cmp rd_ne (op_neD (hu64 hr)) (e_call (ok_number_at Z) (hr.mono (by decide)) rfl Z.g_number_at Z.F_number_at.kp Z.b_number_at (L2N.takes_of rfl rfl rfl rfl) (a_cons (e_var 0) (a_cons (e_int) (a_cons (e_int) (a_nil)))) (len_cons (len_cons (len_cons len_nil)))) (e_int) (nomark _)))))
    (ss_one (s_ret (full := false) (e_bl))) (ss_nil))
    (ss_cons (s_for (passes_of rfl) rfl (i_list rfl (e_lst (a_cons (e_var 0) (a_cons (e_op rd_add op_addA (e_var 0) (e_int)) (a_cons (e_op rd_add op_addA (e_var 0) (e_int)) (a_cons (e_op rd_add op_addA (e_var 0) (e_int)) (a_cons (e_int) (a_cons (e_int) (a_nil))))))))) (pg_name (i := 1) sc__law_made_promises.nd rfl (by first | exact Or.inl rfl | exact Or.inr rfl)) tg_name
    (ss_cons (s_set (full := false) (i := 4) sc__law_made_promises.nd rfl (by first | exact Or.inl rfl | exact Or.inr rfl) (e_lst (a_cons (e_tup (a_cons (e_int) (a_cons (e_int) (a_nil)))) (a_cons (e_tup (a_cons (e_op rd_div op_fdivW (e_var 1) (e_int)) (a_cons (e_op rd_div op_fdivW (e_var 1) (e_int)) (a_nil)))) (a_cons (e_tup (a_cons (e_op rd_sub op_sub (e_var 1) (e_int)) (a_cons (e_int) (a_nil)))) (a_cons (e_tup (a_cons (e_op rd_div op_fdivW (e_var 1) (e_int)) (a_cons (e_op rd_div op_fdivW (e_var 1) (e_int)) (a_nil)))) (a_nil)))))))
    (ss_cons (s_set (full := false) (i := 4) sc__law_made_promises.nd rfl (by first | exact Or.inl rfl | exact Or.inr rfl) (e_op rd_add op_addA (e_var 4) (e_lst (a_cons (e_tup (a_cons (e_op rd_add op_addA (e_op rd_div op_fdivW (e_var 1) (e_int)) (e_int)) (a_cons (e_op rd_div op_fdivW (e_var 1) (e_int)) (a_nil)))) (a_cons (e_tup (a_cons (e_int) (a_cons (e_op rd_sub op_sub (e_var 1) (e_int)) (a_nil)))) (a_nil))))))
    (ss_one (s_for (passes_of rfl) rfl (i_list rfl (e_var 4)) (pg_tup rfl (pgs_cons (pg_name (i := 5) sc__law_made_promises.nd rfl (by first | exact Or.inl rfl | exact Or.inr rfl)) (pgs_cons (pg_name (i := 6) sc__law_made_promises.nd rfl (by first | exact Or.inl rfl | exact Or.inr rfl)) pgs_nil))) (tg_tup (tgs_cons (tgs_cons tgs_nil)))
    (ss_one (s_if (t_cmp rd_ne (op_neD (hu64 hr)) (e_call (ok_place_of Z) (hr.mono (by decide)) rfl Z.g_place_of Z.F_place_of.kp Z.b_place_of (L2N.takes_of rfl rfl rfl rfl) (a_cons (e_var 1) (a_cons (e_call (ok_number_at Z) (hr.mono (by decide)) rfl Z.g_number_at Z.F_number_at.kp Z.b_number_at (L2N.takes_of rfl rfl rfl rfl) (a_cons (e_var 1) (a_cons (e_var 5) (a_cons (e_var 6) (a_nil)))) (len_cons (len_cons (len_cons len_nil)))) (a_nil))) (len_cons (len_cons len_nil))) (e_tup (a_cons (e_var 5) (a_cons (e_var 6) (a_nil)))) (nomark _))
    (ss_one (s_ret (full := false) (e_bl))) (ss_nil))))))))
    (ss_one (s_ret (full := false) (e_bl)))))))))), ?_⟩
  obtain ⟨hT, ⟨F, nt, e, r⟩, q⟩ := h
  cases r
  refine ⟨F, H, F, _, start_ok e .nil, _, mp1, fun σ' F' H' eF ok' => ?_⟩
  have vw : View T (er F') σ' [.sh (.int 1000000000000000000000000000000), .dead, .dead, .dead, .dead, .dead, .dead] := by
    have := ok'.viewF.er
    rw [shs_shd rfl] at this
    exact this
  refine ⟨H', [.sh (.int 1000000000000000000000000000000), .dead, .dead, .dead, .dead, .dead, .dead], Ex.refl H', ok'.view, ?_⟩
  show PostT T _ _ _ _ _ (tMP [.sh (.int 1000000000000000000000000000000), .dead, .dead, .dead, .dead, .dead, .dead])
  rw [mp2]
  intro F2 H2 gr
  dsimp only
  rw [if_neg Bool.false_ne_true]
  refine ⟨hT.ext (ok'.g.h.trans gr.h), er F', [.sh (.int 1000000000000000000000000000000), .dead, .dead, .dead, .dead, .dead, .dead], er_no, (er_ex F').trans (ok'.g.s.trans gr.h), vw, mp3, fun H3 eN hT3 => ?_⟩
  dsimp only
  rw [if_neg Bool.false_ne_true]
  refine rest_true (g := gMP2) vw (fun a o ha => eN a o (gr.h a o (ok'.g.s a o (er_ex F' a o ha))) fun ps z => er_no a ps (by rw [ha, z])) rfl mp4 fun H4 e4 => q H4 (((extN_of (ok'.g.h.trans gr.h)).trans eN).trans (extN_of e4)) (hT3.ext e4)
theorem op1 : gOP1 (([.lst [.lst [.int 1, .int 2], .lst [.int 3, .int 4]]] : List Da).map Sl.sh ++ List.replicate (["_law_two", "_law_square"].length - ([.lst [.lst [.int 1, .int 2], .lst [.int 3, .int 4]]] : List Da).length) Sl.dead) = .nx [.sh (.lst [.lst [.int 1, .int 2], .lst [.int 3, .int 4]]), .dead] := by kernel_rfl
theorem op2 : eLst lOP (Rho.shs [.sh (.lst [.lst [.int 1, .int 2], .lst [.int 3, .int 4]]), .dead]) = .ok (.ow [.lst [.lst [.int 16, .int 2, .int 3, .int 13], .lst [.int 5, .int 11, .int 10, .int 8], .lst [.int 9, .int 7, .int 6, .int 12], .lst [.int 4, .int 14, .int 15, .int 1]], .lst [.lst [.int 1, .int 2, .int 0], .lst [.int 2, .int 0, .int 1], .lst [.int 0, .int 1, .int 2]], .lst [.lst [.int 1]]]) := by kernel_rfl
theorem op3 {ρ : Rho} {d : Da} (h : ρ[1]? = some (.sh d)) : eOP ρ = f_parts [d] := by
  unfold eOP eFn aCons eVar
  rw [h]
  rfl
theorem op4_0 : f_parts [.lst [.lst [.int 16, .int 2, .int 3, .int 13], .lst [.int 5, .int 11, .int 10, .int 8], .lst [.int 9, .int 7, .int 6, .int 12], .lst [.int 4, .int 14, .int 15, .int 1]]] = .ex "NotEven" := by kernel_rfl
theorem op4_1 : f_parts [.lst [.lst [.int 1, .int 2, .int 0], .lst [.int 2, .int 0, .int 1], .lst [.int 0, .int 1, .int 2]]] = .ex "NotEven" := by kernel_rfl
theorem op4_2 : f_parts [.lst [.lst [.int 1]]] = .ex "NotEven" := by kernel_rfl
theorem ok__law_others_promises (Z : Tp T w) (B1 : LamX.TabB base T.mg Z.cc__law_made_promises Z.P__law_made_promises) (B2 : LamX.TabB base T.mg Z.cc__law_others_promises Z.P__law_others_promises) : FnOk P w T.K T.mg base (L2N.CX P w) 7 Z.a__law_others_promises Z.d__law_others_promises ["_law_two"] (spC T (Tbs Z) [.lst [.lst [.int 1, .int 2], .lst [.int 3, .int 4]]]) := by
  refine okC (k := 6) Z.FC__law_others_promises sc__law_others_promises (fun vs H Q E h => spC_len h) fun A outer s H vs Q E hr h => ?_
  obtain ⟨oc, od, kV, doc, pm, an, cdv, ct, osl, efd, lk, hcd⟩ := Z.F__law_no_of.ex
  have hbN := Z.b__law_no_of
  rw [efd] at lk hbN
  have hcN : (["BadOrder", "BadPlace", "BadNumber", "BadSquare", "NotEven", "TooGreat"] : List Str).contains "NotEven" = true := by decide +kernel
  refine ⟨_, ss_then2 (s_if (PW.pt (w_or (t_cmp rd_ne (op_neD (hu64 hr)) (e_call (ok_put_together Z) (hr.mono (by decide)) rfl Z.g_put_together Z.F_put_together.kp Z.b_put_together (L2N.takes_of rfl rfl rfl rfl) (a_cons (e_var 0) (a_cons (e_var 0) (a_cons (e_un rd_neg un_neg (e_int)) (a_nil)))) (len_cons (len_cons (len_cons len_nil)))) (e_lst (a_cons (e_lst (a_cons (e_un rd_neg un_neg (e_int)) (a_cons (e_un rd_neg un_neg (e_int)) (a_nil)))) (a_cons (e_lst (a_cons (e_un rd_neg un_neg (e_int)) (a_cons (e_un rd_neg un_neg (e_int)) (a_nil)))) (a_nil)))) (nomark _)) (w_or1 (t_cmp rd_ne (op_neD (hu64 hr)) (e_call (ok_put_together Z) (hr.mono (by decide)) rfl Z.g_put_together Z.F_put_together.kp Z.b_put_together (L2N.takes_of rfl rfl rfl rfl) (a_cons (e_var 0) (a_cons (e_var 0) (a_cons (e_int) (a_nil)))) (len_cons (len_cons (len_cons len_nil)))) (e_var 0) (nomark _)))))
    (ss_one (s_ret (full := false) (e_bl))) (ss_nil))
    (ss_then2 (s_if (PW.pt (w_or (t_cmp rd_ne (op_neD (hu64 hr)) (e_call (ok_product Z) (hr.mono (by decide)) rfl Z.g_product Z.F_product.kp Z.b_product (L2N.takes_of rfl rfl rfl rfl) (a_cons (e_lst (a_cons (e_lst (a_cons (e_int) (a_nil))) (a_nil))) (a_cons (e_lst (a_cons (e_lst (a_cons (e_int) (a_nil))) (a_nil))) (a_nil))) (len_cons (len_cons len_nil))) (e_lst (a_cons (e_lst (a_cons (e_int) (a_nil))) (a_nil))) (nomark _)) (w_or1 (t_cmp rd_ne (op_neD (hu64 hr)) (e_call (ok_product Z) (hr.mono (by decide)) rfl Z.g_product Z.F_product.kp Z.b_product (L2N.takes_of rfl rfl rfl rfl) (a_cons (e_lst (a_cons (e_lst (a_cons (e_int) (a_nil))) (a_nil))) (a_cons (e_var 0) (a_nil))) (len_cons (len_cons len_nil))) (e_lst (a_cons (e_lst (a_cons (e_int) (a_cons (e_int) (a_nil)))) (a_cons (e_lst (a_cons (e_int) (a_cons (e_int) (a_nil)))) (a_nil)))) (nomark _)))))
    (ss_one (s_ret (full := false) (e_bl))) (ss_nil))
    (ss_then2 (s_if (PW.pt (w_or (t_cmp rd_ne (op_neD (hu64 hr)) (e_call (ok_product Z) (hr.mono (by decide)) rfl Z.g_product Z.F_product.kp Z.b_product (L2N.takes_of rfl rfl rfl rfl) (a_cons (e_var 0) (a_cons (e_lst (a_cons (e_lst (a_cons (e_int) (a_nil))) (a_nil))) (a_nil))) (len_cons (len_cons len_nil))) (e_var 0) (nomark _)) (w_or1 (t_cmp rd_ne (op_neD (hu64 hr)) (e_cb rd_len call_len_seq rfl Z.m_len (by decide +kernel) (a_cons (e_call (ok_product Z) (hr.mono (by decide)) rfl Z.g_product Z.F_product.kp Z.b_product (L2N.takes_of rfl rfl rfl rfl) (a_cons (e_call (ok_made Z) (hr.mono (by decide)) rfl Z.g_made Z.F_made.kp Z.b_made (L2N.takes_of rfl rfl rfl rfl) (a_cons (e_int) (a_nil)) (len_cons len_nil)) (a_cons (e_call (ok_made Z) (hr.mono (by decide)) rfl Z.g_made Z.F_made.kp Z.b_made (L2N.takes_of rfl rfl rfl rfl) (a_cons (e_int) (a_nil)) (len_cons len_nil)) (a_nil))) (len_cons (len_cons len_nil))) (a_nil))) (e_int) (nomark _)))))
    (ss_one (s_ret (full := false) (e_bl))) (ss_nil))
    (ss_then2 (s_if (t_not (t_val (e_isC (b1 := true) (b2 := false) rfl Z.i_Even Z.i_Unlike Z.k1_Even Z.k2_Even rfl Z.m_isinstance (e_call (ok_told Z) (hr.mono (by decide)) rfl Z.g_told Z.F_told.kp Z.b_told (L2N.takes_of rfl rfl rfl rfl) (a_cons (e_call (ok_product Z) (hr.mono (by decide)) rfl Z.g_product Z.F_product.kp Z.b_product (L2N.takes_of rfl rfl rfl rfl) (a_cons (e_call (ok_made Z) (hr.mono (by decide)) rfl Z.g_made Z.F_made.kp Z.b_made (L2N.takes_of rfl rfl rfl rfl) (a_cons (e_int) (a_nil)) (len_cons len_nil)) (a_cons (e_call (ok_made Z) (hr.mono (by decide)) rfl Z.g_made Z.F_made.kp Z.b_made (L2N.takes_of rfl rfl rfl rfl) (a_cons (e_int) (a_nil)) (len_cons len_nil)) (a_nil))) (len_cons (len_cons len_nil))) (a_nil)) (len_cons len_nil)) rfl Z.g_Even)))
    (ss_one (s_ret (full := false) (e_bl))) (ss_nil))
    (ss_then2 (s_if (t_cmp rd_eq (op_eqD (hu64 hr)) (e_call (ok_product Z) (hr.mono (by decide)) rfl Z.g_product Z.F_product.kp Z.b_product (L2N.takes_of rfl rfl rfl rfl) (a_cons (e_call (ok_made Z) (hr.mono (by decide)) rfl Z.g_made Z.F_made.kp Z.b_made (L2N.takes_of rfl rfl rfl rfl) (a_cons (e_int) (a_nil)) (len_cons len_nil)) (a_cons (e_call (ok_made Z) (hr.mono (by decide)) rfl Z.g_made Z.F_made.kp Z.b_made (L2N.takes_of rfl rfl rfl rfl) (a_cons (e_int) (a_nil)) (len_cons len_nil)) (a_nil))) (len_cons (len_cons len_nil))) (e_call (ok_product Z) (hr.mono (by decide)) rfl Z.g_product Z.F_product.kp Z.b_product (L2N.takes_of rfl rfl rfl rfl) (a_cons (e_call (ok_made Z) (hr.mono (by decide)) rfl Z.g_made Z.F_made.kp Z.b_made (L2N.takes_of rfl rfl rfl rfl) (a_cons (e_int) (a_nil)) (len_cons len_nil)) (a_cons (e_call (ok_made Z) (hr.mono (by decide)) rfl Z.g_made Z.F_made.kp Z.b_made (L2N.takes_of rfl rfl rfl rfl) (a_cons (e_int) (a_nil)) (len_cons len_nil)) (a_nil))) (len_cons (len_cons len_nil))) (nomark _))
    (ss_one (s_ret (full := false) (e_bl))) (ss_nil))
    (ss_then2 (s_if (PW.pt (w_or (t_cmp rd_ne (op_neD (hu64 hr)) (e_call (ok_three Z) (hr.mono (by decide)) rfl Z.g_three Z.F_three.kp Z.b_three (L2N.takes_of rfl rfl rfl rfl) (a_cons (e_int) (a_cons (e_int) (a_cons (e_int) (a_nil)))) (len_cons (len_cons (len_cons len_nil)))) (e_call (ok_made Z) (hr.mono (by decide)) rfl Z.g_made Z.F_made.kp Z.b_made (L2N.takes_of rfl rfl rfl rfl) (a_cons (e_int) (a_nil)) (len_cons len_nil)) (nomark _)) (w_or (t_cmp rd_ne (op_neD (hu64 hr)) (e_call (ok_parts Z) (hr.mono (by decide)) rfl Z.g_parts Z.F_parts.kp Z.b_parts (L2N.takes_of rfl rfl rfl rfl) (a_cons (e_call (ok_made Z) (hr.mono (by decide)) rfl Z.g_made Z.F_made.kp Z.b_made (L2N.takes_of rfl rfl rfl rfl) (a_cons (e_int) (a_nil)) (len_cons len_nil)) (a_nil)) (len_cons len_nil)) (e_tup (a_cons (e_int) (a_cons (e_int) (a_cons (e_int) (a_nil))))) (nomark _)) (w_or1 (t_cmp rd_ne (op_neD (hu64 hr)) (e_call (ok_three Z) (hr.mono (by decide)) rfl Z.g_three Z.F_three.kp Z.b_three (L2N.takes_of rfl rfl rfl rfl) (a_cons (e_int) (a_cons (e_int) (a_cons (e_int) (a_nil)))) (len_cons (len_cons (len_cons len_nil)))) (e_op rd_rep op_rep (e_lst (a_cons (e_op rd_rep op_rep (e_lst (a_cons (e_int) (a_nil))) (e_int)) (a_nil))) (e_int)) (nomark _))))))
    (ss_one (s_ret (full := false) (e_bl))) (ss_nil))
    (ss_then (s_if (t_cmp rd_ne (op_neD (hu64 hr)) (e_call (ok_parts Z) (hr.mono (by decide)) rfl Z.g_parts Z.F_parts.kp Z.b_parts (L2N.takes_of rfl rfl rfl rfl) (a_cons (e_call (ok_three Z) (hr.mono (by decide)) rfl Z.g_three Z.F_three.kp Z.b_three (L2N.takes_of rfl rfl rfl rfl) (a_cons (e_un rd_neg un_neg (e_int)) (a_cons (e_op rd_pow op_pow (e_int) (e_int)) (a_cons (e_int) (a_nil)))) (len_cons (len_cons (len_cons len_nil)))) (a_nil)) (len_cons len_nil)) (e_tup (a_cons (e_un rd_neg un_neg (e_int)) (a_cons (e_op rd_pow op_pow (e_int) (e_int)) (a_cons (e_int) (a_nil))))) (nomark _))
    (ss_one (s_ret (full := false) (e_bl))) (ss_nil))
    (pss_cons (s_loopNo (fs := lOP) (fb := eOP) rfl (passes_of rfl) rfl (e_lst (T := T) (W := fun cls d _ H => E cls d H) (a_cons (e_call (ok_made Z) (hr.mono (by decide)) rfl Z.g_made Z.F_made.kp Z.b_made (L2N.takes_of rfl rfl rfl rfl) (a_cons (e_int) (a_nil)) (len_cons len_nil)) (a_cons (e_lst (a_cons (e_lst (a_cons (e_int) (a_cons (e_int) (a_cons (e_int) (a_nil))))) (a_cons (e_lst (a_cons (e_int) (a_cons (e_int) (a_cons (e_int) (a_nil))))) (a_cons (e_lst (a_cons (e_int) (a_cons (e_int) (a_cons (e_int) (a_nil))))) (a_nil))))) (a_cons (e_lst (a_cons (e_lst (a_cons (e_int) (a_nil))) (a_nil))) (a_nil))))) (pg_name (i := 1) sc__law_others_promises.nd rfl (by first | exact Or.inl rfl | exact Or.inr rfl)) (t_no (hu64 hr) (by decide +kernel) (e_lam (fb := eOP) (c := "NotEven") (w := "even") rfl (LamX.pe_lamcall (T := Tbs Z) (k := 4) rfl Z.g__law_no_of Z.F__law_no_of.kp lk hcd hbN sc__law_no_of rfl (Or.inl rfl) (no_gives (T := T) (W := fun _ _ _ _ => False) (c := "NotEven") (w := "even") (h := gNO "NotEven") Z.ea rfl (by decide) rfl rfl rfl Z.g_SquareError (by decide) (fun f => rfl) (fun C hm => (Z.es "NotEven" hcN C hm).1) (fun C hm s H a oe pn hz hfd => ss_cons (s_set (full := false) (i := 2) sc__law_no_of.nd rfl (by first | exact Or.inl rfl | exact Or.inr rfl) (e_lst (a_cons (e_isE (Z.es "NotEven" hcN C hm).2.1 hz hfd (Z.es "NotEven" hcN C hm).2.2.2.1 rfl Z.m_isinstance (e_var 1) rfl Z.g_NotEven) (a_cons (e_isE (Z.es "NotEven" hcN C hm).2.1 hz hfd (Z.es "NotEven" hcN C hm).2.2.1 rfl Z.m_isinstance (e_var 1) rfl Z.g_TooGreat) (a_nil)))))
    (ss_one (s_ret (full := false) (e_if (t_cmp rd_eq (op_eqD (have h64 := hu64 (hr.deeper (envOfC "_law_no_of" (defScope s__law_no_of) s.heap.objs.size Z.a__law_no_of cdv)); h64)) (e_cntB rfl (pe_bm PySem.F.plainAttrs_list PySem.F.slot_list_count PySem.F.type_list_count mt_countV (e_var 2) (pa_cons (e_bl) pa_nil))) (e_int) (nomark _)) (e_ix rfl (e_lst (a_cons (e_str) (a_cons (e_str) (a_nil)))) (e_idxB rfl (pe_bm PySem.F.plainAttrs_list PySem.F.slot_list_index PySem.F.type_list_index mt_index (e_var 2) (pa_cons (e_bl) pa_nil)))) (e_str))))) (by kernel_rfl)) B2 rfl (List.mem_cons_of_mem _ List.mem_cons_self) (fun p hp hP => by
        simp only [List.mem_cons, List.not_mem_nil, or_false] at hp
        rcases hp with rfl | rfl
        · exact absurd hP Z.ne_P
        · rfl) (hr.mono (by decide)) (LamX.lamS_by (sc := defScope s__law_others_promises) (by decide +kernel)) rfl (fun _ _ _ _ _ => rfl) (fun A outer s H E f c' hr2 => e_callL (ok_parts Z) (hr2.mono (by decide)) rfl Z.g_parts Z.F_parts.kp Z.b_parts (L2.takes_of rfl rfl rfl rfl) (a_cons (e_var 1) (a_nil)) (len_cons len_nil)))))
    (ss_one (s_ret (T := T) (W := fun cls d _ H => E cls d H) (full := false) (e_bl))))
    (pss_one (ps_ret (pe_call0 (E := fun _ _ _ => False) (ok__law_made_promises Z B1) (hr.mono (by decide)) rfl Z.g__law_made_promises Z.F__law_made_promises.kp Z.b__law_made_promises .nil passF)))))))))), ?_⟩
  obtain ⟨hT, ⟨F, nt, e, r⟩, q⟩ := h
  cases r with
  | cons r1 r2 =>
    cases r2
    refine ⟨F, H, F, _, start_ok e (.cons r1 .nil), _, op1, fun σ' F' H' eF ok' => ?_⟩
    refine ⟨F, H, F', [.sh (.lst [.lst [.int 1, .int 2], .lst [.int 3, .int 4]]), .dead], ok', rfl, hT.ext ok'.g.h, _, op2, fun d hd ρ' h1 h2 => ?_, by decide, fun σ2 H2 eN hT2 => ?_⟩
    · rw [op3 h2]
      simp only [List.mem_cons, List.not_mem_nil, or_false] at hd
      rcases hd with rfl | rfl | rfl
      · exact op4_0
      · exact op4_1
      · exact op4_2
    · exact ⟨hT2, ⟨fun _ => none, (fun a ps z => by cases z), (fun a o z => by cases z), .nil⟩, fun H3 e3 hT3 => q H3 (((extN_of ok'.g.h).trans eN).trans e3) hT3⟩
def okN (o : Ou) : Bool := match o with
  | .nx r => r.all shd
  | _ => false
def at0 (o : Ou) : Option Sl := match o with
  | .nx r => r[0]?
  | _ => none
theorem pr1 : okN (gPR1 (([] : List Da).map Sl.sh ++ List.replicate (["_law_two", "_law_cases", "_law_one", "_law_other", "_law_square", "_law_due", "_law_ways", "_law_way"].length - ([] : List Da).length) Sl.dead)) = true := by kernel_rfl
theorem pr2 : at0 (gPR1 (([] : List Da).map Sl.sh ++ List.replicate (["_law_two", "_law_cases", "_law_one", "_law_other", "_law_square", "_law_due", "_law_ways", "_law_way"].length - ([] : List Da).length) Sl.dead)) = some (.sh (.lst [.lst [.int 1, .int 2], .lst [.int 3, .int 4]])) := by kernel_rfl
theorem pr3 : ∃ ρ, gPR1 (([] : List Da).map Sl.sh ++ List.replicate (["_law_two", "_law_cases", "_law_one", "_law_other", "_law_square", "_law_due", "_law_ways", "_law_way"].length - ([] : List Da).length) Sl.dead) = .nx ρ ∧ ρ.all shd = true ∧ ρ[0]? = some (.sh (.lst [.lst [.int 1, .int 2], .lst [.int 3, .int 4]])) := by
  have h1 := pr1
  have h2 := pr2
  cases h : gPR1 (([] : List Da).map Sl.sh ++ List.replicate (["_law_two", "_law_cases", "_law_one", "_law_other", "_law_square", "_law_due", "_law_ways", "_law_way"].length - ([] : List Da).length) Sl.dead) with
  | nx r => rw [h] at h1 h2; exact ⟨r, rfl, h1, h2⟩
  | _ => rw [h] at h1; cases h1
theorem ok__law_promises_right (Z : Tp T w) (B1 : LamX.TabB base T.mg Z.cc__law_made_promises Z.P__law_made_promises) (B2 : LamX.TabB base T.mg Z.cc__law_others_promises Z.P__law_others_promises) : FnOk P w T.K T.mg base (L2N.CX P w) 8 Z.a__law_promises_right Z.d__law_promises_right [] (spC T (Tbs Z) []) := by
  refine okF (k := 7) Z.F__law_promises_right sc__law_promises_right (fun vs H Q E h => spC_len h) fun cdv A outer s H vs Q E hr h => ?_
  refine ⟨_, ss_then2 (s_set (full := false) (i := 0) sc__law_promises_right.nd rfl (by first | exact Or.inl rfl | exact Or.inr rfl) (e_lst (a_cons (e_lst (a_cons (e_int) (a_cons (e_int) (a_nil)))) (a_cons (e_lst (a_cons (e_int) (a_cons (e_int) (a_nil)))) (a_nil)))))
    (ss_then2 (s_if (PW.pt (w_or (t_not (t_val (e_isC (b1 := true) (b2 := false) rfl Z.i_Even Z.i_Unlike Z.k1_Even Z.k2_Even rfl Z.m_isinstance (e_call (ok_told Z) (hr.mono (by decide)) rfl Z.g_told Z.F_told.kp Z.b_told (L2N.takes_of rfl rfl rfl rfl) (a_cons (e_lst (a_cons (e_lst (a_cons (e_int) (a_nil))) (a_nil))) (a_nil)) (len_cons len_nil)) rfl Z.g_Even))) (w_or (t_cmp rd_ne (op_neD (hu64 hr)) (e_total rfl Z.cl_Even Z.n_Even_total (e_call (ok_told Z) (hr.mono (by decide)) rfl Z.g_told Z.F_told.kp Z.b_told (L2N.takes_of rfl rfl rfl rfl) (a_cons (e_lst (a_cons (e_lst (a_cons (e_int) (a_nil))) (a_nil))) (a_nil)) (len_cons len_nil))) (e_int) (nomark _)) (w_or (t_not (t_val (e_call (ok_whole Z) (hr.mono (by decide)) rfl Z.g_whole Z.F_whole.kp Z.b_whole (L2N.takes_of rfl rfl rfl rfl) (a_cons (e_lst (a_cons (e_lst (a_cons (e_int) (a_nil))) (a_nil))) (a_nil)) (len_cons len_nil)))) (w_or1 (t_val (e_call (ok_whole Z) (hr.mono (by decide)) rfl Z.g_whole Z.F_whole.kp Z.b_whole (L2N.takes_of rfl rfl rfl rfl) (a_cons (e_lst (a_cons (e_lst (a_cons (e_int) (a_nil))) (a_nil))) (a_nil)) (len_cons len_nil))))))))
    (ss_one (s_ret (full := false) (e_bl))) (ss_nil))
    (ss_then2 (s_if (PW.pt (w_or (t_val (e_call (ok_whole Z) (hr.mono (by decide)) rfl Z.g_whole Z.F_whole.kp Z.b_whole (L2N.takes_of rfl rfl rfl rfl) (a_cons (e_lst (a_cons (e_lst (a_cons (e_int) (a_cons (e_int) (a_nil)))) (a_cons (e_lst (a_cons (e_int) (a_cons (e_int) (a_nil)))) (a_nil)))) (a_nil)) (len_cons len_nil))) (w_or1 (t_not (t_val (e_call (ok_whole Z) (hr.mono (by decide)) rfl Z.g_whole Z.F_whole.kp Z.b_whole (L2N.takes_of rfl rfl rfl rfl) (a_cons (e_var 0) (a_nil)) (len_cons len_nil)))))))
    (ss_one (s_ret (full := false) (e_bl))) (ss_nil))
    (ss_then2 (s_set (full := false) (i := 1) sc__law_promises_right.nd rfl (by first | exact Or.inl rfl | exact Or.inr rfl) (e_lst (a_cons (e_tup (a_cons (e_tup (a_cons (e_str) (a_cons (e_int) (a_nil)))) (a_cons (e_tup (a_cons (e_str) (a_cons (e_int) (a_nil)))) (a_cons (e_var 0) (a_cons (e_bl) (a_nil)))))) (a_cons (e_tup (a_cons (e_tup (a_cons (e_str) (a_cons (e_int) (a_nil)))) (a_cons (e_tup (a_cons (e_str) (a_cons (e_int) (a_nil)))) (a_cons (e_var 0) (a_cons (e_bl) (a_nil)))))) (a_nil)))))
    (ss_then2 (s_set (full := false) (i := 1) sc__law_promises_right.nd rfl (by first | exact Or.inl rfl | exact Or.inr rfl) (e_op rd_add op_addA (e_var 1) (e_lst (a_cons (e_tup (a_cons (e_tup (a_cons (e_str) (a_cons (e_int) (a_nil)))) (a_cons (e_tup (a_cons (e_str) (a_cons (e_int) (a_nil)))) (a_cons (e_var 0) (a_cons (e_bl) (a_nil)))))) (a_cons (e_tup (a_cons (e_tup (a_cons (e_str) (a_cons (e_int) (a_nil)))) (a_cons (e_tup (a_cons (e_str) (a_cons (e_int) (a_nil)))) (a_cons (e_var 0) (a_cons (e_bl) (a_nil)))))) (a_nil))))))
    (ss_then2 (s_set (full := false) (i := 1) sc__law_promises_right.nd rfl (by first | exact Or.inl rfl | exact Or.inr rfl) (e_op rd_add op_addA (e_var 1) (e_lst (a_cons (e_tup (a_cons (e_tup (a_cons (e_str) (a_cons (e_int) (a_nil)))) (a_cons (e_tup (a_cons (e_str) (a_cons (e_int) (a_nil)))) (a_cons (e_var 0) (a_cons (e_bl) (a_nil)))))) (a_cons (e_tup (a_cons (e_tup (a_cons (e_str) (a_cons (e_int) (a_nil)))) (a_cons (e_tup (a_cons (e_str) (a_cons (e_int) (a_nil)))) (a_cons (e_var 0) (a_cons (e_bl) (a_nil)))))) (a_nil))))))
    (ss_then2 (s_set (full := false) (i := 1) sc__law_promises_right.nd rfl (by first | exact Or.inl rfl | exact Or.inr rfl) (e_op rd_add op_addA (e_var 1) (e_lst (a_cons (e_tup (a_cons (e_tup (a_cons (e_str) (a_cons (e_int) (a_nil)))) (a_cons (e_tup (a_cons (e_str) (a_cons (e_int) (a_nil)))) (a_cons (e_var 0) (a_cons (e_bl) (a_nil)))))) (a_cons (e_tup (a_cons (e_tup (a_cons (e_str) (a_cons (e_int) (a_nil)))) (a_cons (e_tup (a_cons (e_str) (a_cons (e_int) (a_nil)))) (a_cons (e_var 0) (a_cons (e_bl) (a_nil)))))) (a_nil))))))
    (ss_then2 (s_set (full := false) (i := 1) sc__law_promises_right.nd rfl (by first | exact Or.inl rfl | exact Or.inr rfl) (e_op rd_add op_addA (e_var 1) (e_lst (a_cons (e_tup (a_cons (e_tup (a_cons (e_str) (a_cons (e_int) (a_nil)))) (a_cons (e_tup (a_cons (e_str) (a_cons (e_un rd_neg un_neg (e_int)) (a_nil)))) (a_cons (e_var 0) (a_cons (e_bl) (a_nil)))))) (a_nil)))))
    (ss_then2 (s_set (full := false) (i := 1) sc__law_promises_right.nd rfl (by first | exact Or.inl rfl | exact Or.inr rfl) (e_op rd_add op_addA (e_var 1) (e_lst (a_cons (e_tup (a_cons (e_tup (a_cons (e_str) (a_cons (e_int) (a_nil)))) (a_cons (e_tup (a_cons (e_str) (a_cons (e_int) (a_nil)))) (a_cons (e_lst (a_cons (e_lst (a_cons (e_int) (a_cons (e_int) (a_cons (e_int) (a_nil))))) (a_cons (e_lst (a_cons (e_int) (a_cons (e_int) (a_cons (e_int) (a_nil))))) (a_cons (e_lst (a_cons (e_int) (a_cons (e_int) (a_cons (e_int) (a_nil))))) (a_nil))))) (a_cons (e_bl) (a_nil)))))) (a_nil)))))
    (ss_then2 (s_for (passes_of rfl) rfl (i_list rfl (e_var 1)) (pg_tup rfl (pgs_cons (pg_name (i := 2) sc__law_promises_right.nd rfl (by first | exact Or.inl rfl | exact Or.inr rfl)) (pgs_cons (pg_name (i := 3) sc__law_promises_right.nd rfl (by first | exact Or.inl rfl | exact Or.inr rfl)) (pgs_cons (pg_name (i := 4) sc__law_promises_right.nd rfl (by first | exact Or.inl rfl | exact Or.inr rfl)) (pgs_cons (pg_name (i := 5) sc__law_promises_right.nd rfl (by first | exact Or.inl rfl | exact Or.inr rfl)) pgs_nil))))) (tg_tup (tgs_cons (tgs_cons (tgs_cons (tgs_cons tgs_nil)))))
    (ss_one (s_if (t_cmp rd_ne (op_neD (hu64 hr)) (e_shows (len_cons len_nil) (pe_meth (e_unl Z.K_Unlike (ok_init_Unlike Z) (hr.mono (by decide)) rfl Z.g_Unlike Z.bi_Unlike (a_cons (e_var 2) (a_cons (e_var 3) (a_nil)))) Z.cl_Even Z.M_Even_shows (ok_Even_shows Z) (hr.mono (by decide)) Z.b_Even_shows .nil passF (a_cons (e_var 4) (a_nil))) (pe_meth (e_unl Z.K_Unlike (ok_init_Unlike Z) (hr.mono (by decide)) rfl Z.g_Unlike Z.bi_Unlike (a_cons (e_var 2) (a_cons (e_var 3) (a_nil)))) Z.cl_Unlike Z.M_Unlike_shows (ok_Unlike_shows Z) (hr.mono (by decide)) Z.b_Unlike_shows .nil passF (a_cons (e_var 4) (a_nil)))) (e_var 5) (nomark _))
    (ss_one (s_ret (full := false) (e_bl))) (ss_nil))))
    (ss_then2 (s_if (t_not (t_val (e_isC (b1 := false) (b2 := true) rfl Z.i_Even Z.i_Unlike Z.k1_Unlike Z.k2_Unlike rfl Z.m_isinstance (e_call (ok_told Z) (hr.mono (by decide)) rfl Z.g_told Z.F_told.kp Z.b_told (L2N.takes_of rfl rfl rfl rfl) (a_cons (e_lst (a_cons (e_lst (a_cons (e_int) (a_cons (e_int) (a_cons (e_int) (a_nil))))) (a_cons (e_lst (a_cons (e_int) (a_cons (e_int) (a_cons (e_int) (a_nil))))) (a_cons (e_lst (a_cons (e_int) (a_cons (e_int) (a_cons (e_int) (a_nil))))) (a_nil))))) (a_nil)) (len_cons len_nil)) rfl Z.g_Unlike)))
    (ss_one (s_ret (full := false) (e_bl))) (ss_nil))
    (ss_then2 (s_if (PW.pt (w_or (t_val (e_shows (len_cons len_nil) (pe_meth (e_even Z.K_Even (ok_init_Even Z) (hr.mono (by decide)) rfl Z.g_Even Z.bi_Even (a_cons (e_int) (a_nil))) Z.cl_Even Z.M_Even_shows (ok_Even_shows Z) (hr.mono (by decide)) Z.b_Even_shows .nil passF (a_cons (e_lst (a_cons (e_lst (a_cons (e_int) (a_cons (e_int) (a_cons (e_int) (a_nil))))) (a_cons (e_lst (a_cons (e_int) (a_cons (e_int) (a_cons (e_int) (a_nil))))) (a_cons (e_lst (a_cons (e_int) (a_cons (e_int) (a_cons (e_int) (a_nil))))) (a_nil))))) (a_nil))) (pe_meth (e_even Z.K_Even (ok_init_Even Z) (hr.mono (by decide)) rfl Z.g_Even Z.bi_Even (a_cons (e_int) (a_nil))) Z.cl_Unlike Z.M_Unlike_shows (ok_Unlike_shows Z) (hr.mono (by decide)) Z.b_Unlike_shows .nil passF (a_cons (e_lst (a_cons (e_lst (a_cons (e_int) (a_cons (e_int) (a_cons (e_int) (a_nil))))) (a_cons (e_lst (a_cons (e_int) (a_cons (e_int) (a_cons (e_int) (a_nil))))) (a_cons (e_lst (a_cons (e_int) (a_cons (e_int) (a_cons (e_int) (a_nil))))) (a_nil))))) (a_nil))))) (w_or1 (t_val (e_shows (len_cons len_nil) (pe_meth (e_even Z.K_Even (ok_init_Even Z) (hr.mono (by decide)) rfl Z.g_Even Z.bi_Even (a_cons (e_int) (a_nil))) Z.cl_Even Z.M_Even_shows (ok_Even_shows Z) (hr.mono (by decide)) Z.b_Even_shows .nil passF (a_cons (e_call (ok_made Z) (hr.mono (by decide)) rfl Z.g_made Z.F_made.kp Z.b_made (L2N.takes_of rfl rfl rfl rfl) (a_cons (e_int) (a_nil)) (len_cons len_nil)) (a_nil))) (pe_meth (e_even Z.K_Even (ok_init_Even Z) (hr.mono (by decide)) rfl Z.g_Even Z.bi_Even (a_cons (e_int) (a_nil))) Z.cl_Unlike Z.M_Unlike_shows (ok_Unlike_shows Z) (hr.mono (by decide)) Z.b_Unlike_shows .nil passF (a_cons (e_call (ok_made Z) (hr.mono (by decide)) rfl Z.g_made Z.F_made.kp Z.b_made (L2N.takes_of rfl rfl rfl rfl) (a_cons (e_int) (a_nil)) (len_cons len_nil)) (a_nil))))))))
    (ss_one (s_ret (full := false) (e_bl))) (ss_nil))
    (ss_then2 (s_set (full := false) (i := 6) sc__law_promises_right.nd rfl (by first | exact Or.inl rfl | exact Or.inr rfl) (e_lst (a_cons (e_lst (a_cons (e_lst (a_cons (e_int) (a_cons (e_int) (a_nil)))) (a_cons (e_lst (a_cons (e_int) (a_cons (e_int) (a_nil)))) (a_nil)))) (a_cons (e_lst (a_cons (e_lst (a_cons (e_int) (a_cons (e_int) (a_nil)))) (a_cons (e_lst (a_cons (e_int) (a_cons (e_int) (a_nil)))) (a_nil)))) (a_cons (e_lst (a_cons (e_lst (a_cons (e_int) (a_cons (e_int) (a_nil)))) (a_cons (e_lst (a_cons (e_int) (a_cons (e_int) (a_nil)))) (a_nil)))) (a_cons (e_lst (a_cons (e_lst (a_cons (e_int) (a_cons (e_int) (a_nil)))) (a_cons (e_lst (a_cons (e_int) (a_cons (e_int) (a_nil)))) (a_nil)))) (a_cons (e_lst (a_cons (e_lst (a_cons (e_int) (a_cons (e_int) (a_nil)))) (a_cons (e_lst (a_cons (e_int) (a_cons (e_int) (a_nil)))) (a_nil)))) (a_nil))))))))
    (ss_then2 (s_set (full := false) (i := 6) sc__law_promises_right.nd rfl (by first | exact Or.inl rfl | exact Or.inr rfl) (e_op rd_add op_addA (e_var 6) (e_lst (a_cons (e_lst (a_cons (e_lst (a_cons (e_int) (a_cons (e_int) (a_nil)))) (a_cons (e_lst (a_cons (e_int) (a_cons (e_int) (a_nil)))) (a_nil)))) (a_cons (e_lst (a_cons (e_lst (a_cons (e_int) (a_cons (e_int) (a_nil)))) (a_cons (e_lst (a_cons (e_int) (a_cons (e_int) (a_nil)))) (a_nil)))) (a_cons (e_lst (a_cons (e_lst (a_cons (e_int) (a_cons (e_int) (a_nil)))) (a_cons (e_lst (a_cons (e_int) (a_cons (e_int) (a_nil)))) (a_nil)))) (a_nil)))))))
    (ss_then (s_if (PW.pt (w_or (t_cmp rd_ne (op_neD (hu64 hr)) (e_lc (own := [("_law_way", 7)]) rfl sc__law_promises_right.nd (i_range1 rfl Z.m_range (a_cons (e_int) (a_nil))) (blkOk_by (N := ["_law_two", "_law_cases", "_law_one", "_law_other", "_law_square", "_law_due", "_law_ways", "_law_way"]) (sc := defScope s__law_promises_right) (by decide +kernel)) tg_name (by decide) (fun _ _ _ _ _ => (pg_name (i := 7) sc__law_promises_right.nd rfl (by first | exact Or.inl rfl | exact Or.inr rfl))) (fun _ _ _ _ _ => e_call (ok_turned Z) (hr.mono (by decide)) rfl Z.g_turned Z.F_turned.kp Z.b_turned takesN (a_cons (e_var 0) (a_cons (e_var 7) (a_nil))) (len_cons (len_cons len_nil)))) (e_var 6) (nomark _)) (w_or1 (t_cmp rd_ne (op_neD (hu64 hr)) (e_call (ok_other_way Z) (hr.mono (by decide)) rfl Z.g_other_way Z.F_other_way.kp Z.b_other_way (L2N.takes_of rfl rfl rfl rfl) (a_cons (e_var 0) (a_nil)) (len_cons len_nil)) (e_lst (a_cons (e_lst (a_cons (e_int) (a_cons (e_int) (a_nil)))) (a_cons (e_lst (a_cons (e_int) (a_cons (e_int) (a_nil)))) (a_nil)))) (nomark _)))))
    (ss_one (s_ret (full := false) (e_bl))) (ss_nil))
    (pss_one (ps_ret (pe_callS (E := fun _ _ _ _ => False) (ok__law_others_promises Z B1 B2) (hr.mono (by decide)) rfl Z.g__law_others_promises Z.F__law_others_promises.kp Z.b__law_others_promises (fun σ pins H s e s' I ⟨_, _, _, _, _, _, _, _, _, _, _, _, z⟩ => z.elim) (a_cons (T := T) (W := fun cls d _ H => E cls d H) (e_var 0) (a_nil))))))))))))))))))), ?_⟩
  obtain ⟨hT, ⟨F, nt, e, r⟩, q⟩ := h
  cases r
  obtain ⟨ρ, a1, a2, a3⟩ := pr3
  refine ⟨F, H, F, _, start_ok e .nil, ρ, a1, fun σ' F' H' eF ok' => ?_⟩
  refine ⟨F', Rho.shs ρ, ok'.g.s, ok'.viewF, ?_⟩
  rw [shs_shd a2]
  have ha : aCons (eVar 0) aNil ρ = .ok [.lst [.lst [.int 1, .int 2], .lst [.int 3, .int 4]]] := by
    unfold aCons eVar
    rw [a3]
    rfl
  rw [ha]
  intro vs F2 H2 gr r
  exact ⟨hT.ext (ok'.g.h.trans gr.h), ⟨er F2, er_no, (er_ex F2).trans gr.s, r.er⟩, fun H3 eN hT3 => q H3 ((extN_of (ok'.g.h.trans gr.h)).trans eN) hT3⟩
theorem ok_law (Z : Tp T w) (B1 : LamX.TabB base T.mg Z.cc__law_made_promises Z.P__law_made_promises) (B2 : LamX.TabB base T.mg Z.cc__law_others_promises Z.P__law_others_promises) (LT : ∀ ns : List Int, ns.length ≤ 63 → (∀ z ∈ ns, Builtin.Int.intBits z ≤ 1048576) → gLaw2 (([.scr ns] : List Da).map Sl.sh ++ List.replicate 11 Sl.dead) = .rt (.sh (.bl true))) : FnOk P w T.K T.mg base (L2N.CX P w) 9 Z.a_law Z.d_law ["_law_script"] (spL T (Tbs Z)) := by
  refine okF (k := 8) Z.F_law sc_law (fun vs H Q E h => spL_len h) fun cdv A outer s H vs Q E hr h => ?_
  refine ⟨_, pss_cons (ps_if (pt_not (pt_val (pe_call0 (E := fun _ _ _ => False) (ok__law_promises_right Z B1 B2) (hr.mono (by decide)) rfl Z.g__law_promises_right Z.F__law_promises_right.kp Z.b__law_promises_right .nil passF)))
    (ss_one (s_ret (T := T) (W := fun cls d _ H => E cls d H) (full := false) (e_bl))) pss_nil)
    (ss_cons (s_set (full := false) (i := 1) sc_law.nd rfl (by first | exact Or.inl rfl | exact Or.inr rfl) (e_cb rd_abs call_abs rfl Z.m_abs (by decide +kernel) (a_cons (e_cb rd_sum (cr_sum rfl) rfl Z.m_sum (by decide +kernel) (a_cons (e_sl rfl (e_var 0) (o_none) (o_some (e_int))) (a_nil))) (a_nil))))
    (ss_cons (s_set (full := false) (i := 2) sc_law.nd rfl (by first | exact Or.inl rfl | exact Or.inr rfl) (e_if (t_cmp rd_ne (op_neD (hu64 hr)) (e_var 0) (e_lst (a_nil)) (nomark _)) (e_sl rfl (e_var 0) (o_none) (o_some (e_int))) (e_lst (a_cons (e_int) (a_nil)))))
    (ss_cons (s_set (full := false) (i := 3) sc_law.nd rfl (by first | exact Or.inl rfl | exact Or.inr rfl) (e_op rd_add op_addA (e_int) (e_op rd_mod op_mod (e_var 1) (e_int))))
    (ss_cons (s_set (full := false) (i := 4) sc_law.nd rfl (by first | exact Or.inl rfl | exact Or.inr rfl) (e_op rd_div op_fdivW (e_cb rd_abs call_abs rfl Z.m_abs (by decide +kernel) (a_cons (e_call (ok__law_number Z) (hr.mono (by decide)) rfl Z.g__law_number Z.F__law_number.kp Z.b__law_number (L2N.takes_of rfl rfl rfl rfl) (a_cons (e_var 1) (a_cons (e_int) (a_cons (e_int) (a_nil)))) (len_cons (len_cons (len_cons len_nil)))) (a_nil))) (e_int)))
    (ss_cons (s_set (full := false) (i := 5) sc_law.nd rfl (by first | exact Or.inl rfl | exact Or.inr rfl) (e_lst (a_cons (e_call (ok_total Z) (hr.mono (by decide)) rfl Z.g_total Z.F_total.kp Z.b_total (L2N.takes_of rfl rfl rfl rfl) (a_cons (e_var 3) (a_nil)) (len_cons len_nil)) (a_cons (e_call (ok_total Z) (hr.mono (by decide)) rfl Z.g_total Z.F_total.kp Z.b_total (L2N.takes_of rfl rfl rfl rfl) (a_cons (e_int) (a_nil)) (len_cons len_nil)) (a_cons (e_call (ok_number_at Z) (hr.mono (by decide)) rfl Z.g_number_at Z.F_number_at.kp Z.b_number_at (L2N.takes_of rfl rfl rfl rfl) (a_cons (e_var 3) (a_cons (e_op rd_mod op_mod (e_var 4) (e_var 3)) (a_cons (e_int) (a_nil)))) (len_cons (len_cons (len_cons len_nil)))) (a_nil))))))
    (ss_cons (s_set (full := false) (i := 5) sc_law.nd rfl (by first | exact Or.inl rfl | exact Or.inr rfl) (e_op rd_add op_addA (e_var 5) (e_lst (a_cons (e_call (ok_place_of Z) (hr.mono (by decide)) rfl Z.g_place_of Z.F_place_of.kp Z.b_place_of (L2N.takes_of rfl rfl rfl rfl) (a_cons (e_var 3) (a_cons (e_op rd_add op_addA (e_int) (e_op rd_mod op_mod (e_var 4) (e_op rd_mul op_mulA (e_var 3) (e_var 3)))) (a_nil))) (len_cons (len_cons len_nil))) (a_nil)))))
    (ss_cons (s_set (full := false) (i := 5) sc_law.nd rfl (by first | exact Or.inl rfl | exact Or.inr rfl) (e_op rd_add op_addA (e_var 5) (e_lst (a_cons (e_call (ok_three Z) (hr.mono (by decide)) rfl Z.g_three Z.F_three.kp Z.b_three (L2N.takes_of rfl rfl rfl rfl) (a_cons (e_var 1) (a_cons (e_int) (a_cons (e_int) (a_nil)))) (len_cons (len_cons (len_cons len_nil)))) (a_cons (e_call (ok_parts Z) (hr.mono (by decide)) rfl Z.g_parts Z.F_parts.kp Z.b_parts (L2N.takes_of rfl rfl rfl rfl) (a_cons (e_call (ok_three Z) (hr.mono (by decide)) rfl Z.g_three Z.F_three.kp Z.b_three (L2N.takes_of rfl rfl rfl rfl) (a_cons (e_var 1) (a_cons (e_int) (a_cons (e_int) (a_nil)))) (len_cons (len_cons (len_cons len_nil)))) (a_nil)) (len_cons len_nil)) (a_cons (e_call (ok_number_at Z) (hr.mono (by decide)) rfl Z.g_number_at Z.F_number_at.kp Z.b_number_at (L2N.takes_of rfl rfl rfl rfl) (a_cons (e_int) (a_cons (e_int) (a_cons (e_int) (a_nil)))) (len_cons (len_cons (len_cons len_nil)))) (a_cons (e_call (ok_place_of Z) (hr.mono (by decide)) rfl Z.g_place_of Z.F_place_of.kp Z.b_place_of (L2N.takes_of rfl rfl rfl rfl) (a_cons (e_int) (a_cons (e_int) (a_nil))) (len_cons (len_cons len_nil))) (a_cons (e_call (ok_made Z) (hr.mono (by decide)) rfl Z.g_made Z.F_made.kp Z.b_made (L2N.takes_of rfl rfl rfl rfl) (a_cons (e_int) (a_nil)) (len_cons len_nil)) (a_nil)))))))))
    (ss_cons (s_if (PW.pt (w_or (t_not (t_val (e_call (ok__law_plain Z 6) (hr.mono (by decide)) rfl Z.g__law_plain Z.F__law_plain.kp Z.b__law_plain (L2N.takes_of rfl rfl rfl rfl) (a_cons (e_var 5) (a_nil)) (len_cons len_nil)))) (w_or1 (t_not (t_val (e_isi (t := .tuple) rfl rfl Z.m_isinstance (e_call (ok_parts Z) (hr.mono (by decide)) rfl Z.g_parts Z.F_parts.kp Z.b_parts (L2N.takes_of rfl rfl rfl rfl) (a_cons (e_call (ok_three Z) (hr.mono (by decide)) rfl Z.g_three Z.F_three.kp Z.b_three (L2N.takes_of rfl rfl rfl rfl) (a_cons (e_int) (a_cons (e_int) (a_cons (e_int) (a_nil)))) (len_cons (len_cons (len_cons len_nil)))) (a_nil)) (len_cons len_nil)) rfl Z.m_tuple (by decide +kernel)))))))
    (ss_one (s_ret (full := false) (e_bl))) (ss_nil))
    (ss_cons (s_if (t_not (t_val (e_isi (t := .tuple) rfl rfl Z.m_isinstance (e_call (ok_place_of Z) (hr.mono (by decide)) rfl Z.g_place_of Z.F_place_of.kp Z.b_place_of (L2N.takes_of rfl rfl rfl rfl) (a_cons (e_var 3) (a_cons (e_int) (a_nil))) (len_cons (len_cons len_nil))) rfl Z.m_tuple (by decide +kernel))))
    (ss_one (s_ret (full := false) (e_bl))) (ss_nil))
    (ss_cons (s_parO (i := 6) (j := 7) rfl sc_law.nd rfl rfl (by decide) rfl rfl (pa_cons (e_lst (a_nil)) (pa_cons (e_sl rfl (e_var 2) (o_none) (o_some (e_int))) pa_nil)))
    (ss_cons (s_for (passes_of rfl) rfl (i_range1 rfl Z.m_range (a_cons (e_cb rd_len call_len_seq rfl Z.m_len (by decide +kernel) (a_cons (e_var 7) (a_nil))) (a_nil))) (pg_name (i := 8) sc_law.nd rfl (by first | exact Or.inl rfl | exact Or.inr rfl)) tg_name
    (ss_one (s_app (full := false) (ps_expr (pe_bm PySem.F.plainAttrs_list PySem.F.slot_list_append PySem.F.type_list_append mt_append (pv 6) (pa_cons (e_lc (own := [("_law_at", 10), ("_law_cell", 11)]) rfl sc_law.nd (i_enum rfl rfl Z.m_enumerate (a_cons (e_var 7) (a_nil))) (blkOk_by (N := ["_law_script", "_law_many", "_law_cells", "_law_order", "_law_number_here", "_law_found", "_law_drawn", "_law_some", "_law_row", "_law_square", "_law_at", "_law_cell"]) (sc := defScope s_law) (by decide +kernel)) (tg_tup (tgs_cons (tgs_cons tgs_nil))) (by decide) (fun _ _ _ _ _ => (pg_tup rfl (pgs_cons (pg_name (i := 10) sc_law.nd rfl (by first | exact Or.inl rfl | exact Or.inr rfl)) (pgs_cons (pg_name (i := 11) sc_law.nd rfl (by first | exact Or.inl rfl | exact Or.inr rfl)) pgs_nil)))) (fun _ _ _ _ _ => e_op rd_mod op_mod (e_op rd_div op_fdivW (e_cb rd_abs call_abs rfl Z.m_abs (by decide +kernel) (a_cons (e_call (ok__law_number Z) (hr.mono (by decide)) rfl Z.g__law_number Z.F__law_number.kp Z.b__law_number takesN (a_cons (e_var 11) (a_cons (e_op rd_add op_addA (e_var 10) (e_var 8)) (a_cons (e_var 1) (a_nil)))) (len_cons (len_cons (len_cons len_nil)))) (a_nil))) (e_int)) (e_int))) pa_nil))))))
    (ss_one (s_frz (i := 6) (s_ret (full := false) (e_cb rd_all (cr_all rfl) rfl Z.m_all (by decide +kernel) (a_cons (e_lc (own := [("_law_square", 9)]) rfl sc_law.nd (i_list rfl (e_lst (a_cons (e_var 6) (a_cons (e_call (ok_made Z) (hr.mono (by decide)) rfl Z.g_made Z.F_made.kp Z.b_made (L2N.takes_of rfl rfl rfl rfl) (a_cons (e_var 3) (a_nil)) (len_cons len_nil)) (a_cons (e_lst (a_cons (e_lst (a_cons (e_int) (a_nil))) (a_nil))) (a_cons (e_call (ok_three Z) (hr.mono (by decide)) rfl Z.g_three Z.F_three.kp Z.b_three (L2N.takes_of rfl rfl rfl rfl) (a_cons (e_var 1) (a_cons (e_int) (a_cons (e_int) (a_nil)))) (len_cons (len_cons (len_cons len_nil)))) (a_nil))))))) (blkOk_by (N := ["_law_script", "_law_many", "_law_cells", "_law_order", "_law_number_here", "_law_found", "_law_drawn", "_law_some", "_law_row", "_law_square", "_law_at", "_law_cell"]) (sc := defScope s_law) (by decide +kernel)) tg_name (by decide) (fun _ _ _ _ _ => (pg_name (i := 9) sc_law.nd rfl (by first | exact Or.inl rfl | exact Or.inr rfl))) (fun _ _ _ _ _ => e_call (ok__law_square_right Z) (hr.mono (by decide)) rfl Z.g__law_square_right Z.F__law_square_right.kp Z.b__law_square_right takesN (a_cons (e_var 9) (a_nil)) (len_cons len_nil))) (a_nil))))))))))))))))), ?_⟩
  obtain ⟨hT, ⟨F, ns, nt, e, r, hl, hb⟩, q⟩ := h
  have ok0 := start_ok (N := ["_law_script", "_law_many", "_law_cells", "_law_order", "_law_number_here", "_law_found", "_law_drawn", "_law_some", "_law_row", "_law_square", "_law_at", "_law_cell"]) e r
  refine ⟨hT, ⟨fun _ => none, (fun a ps z => by cases z), (fun a o z => by cases z), .nil⟩, fun H1 eN hT1 => ⟨true, rfl, ?_⟩⟩
  dsimp only
  rw [Bool.not_true, if_neg Bool.false_ne_true]
  have vw := ok0.viewF
  rw [shs_shd rfl] at vw
  exact rest_true (g := gLaw2) vw (fun a o ha => eN a o (e a o ha) fun ps z => nt a ps (by rw [ha, z])) rfl (LT ns hl hb) fun H4 _ => q H4
end
theorem all_mk {l : PySem.W.OpenLaw} {w : World} {K : PySem.W.Frag} {h : Heap} {mg : Str → Option Value} {fa : Addr} (X : K.In h) (G : h.Ns mainGlobals mg) (hfa : mg "law" = some (.ref fa)) (O1 : ∀ a, mg "_law_made_promises" = some (.ref a) → LamX.OwnTab K a h) (O2 : ∀ a, mg "_law_others_promises" = some (.ref a) → LamX.OwnTab K a h)
    (LT : ∀ ns : List Int, ns.length ≤ 63 → (∀ z ∈ ns, Builtin.Int.intBits z ≤ 1048576) → gLaw2 (([.scr ns] : List Da).map Sl.sh ++ List.replicate 11 Sl.dead) = .rt (.sh (.bl true)))
    {C_Even : Addr}
    {C_Unlike : Addr}
    {ad_initEven : Addr} {od_initEven an_initEven : Option Addr} {sl_initEven : Array (Option Value)} {oc_initEven kV_initEven dc_initEven pm_initEven cd_initEven ct_initEven : Value}
    {ad_initUnlike : Addr} {od_initUnlike an_initUnlike : Option Addr} {sl_initUnlike : Array (Option Value)} {oc_initUnlike kV_initUnlike dc_initUnlike pm_initUnlike cd_initUnlike ct_initUnlike : Value}
    {ad_is_number : Addr} {od_is_number an_is_number : Option Addr} {sl_is_number : Array (Option Value)} {oc_is_number kV_is_number dc_is_number pm_is_number cd_is_number ct_is_number : Value}
    {ad_asked_square : Addr} {od_asked_square an_asked_square : Option Addr} {sl_asked_square : Array (Option Value)} {oc_asked_square kV_asked_square dc_asked_square pm_asked_square cd_asked_square ct_asked_square : Value}
    {ad_lines : Addr} {od_lines an_lines : Option Addr} {sl_lines : Array (Option Value)} {oc_lines kV_lines dc_lines pm_lines cd_lines ct_lines : Value}
    {ad_sum_along : Addr} {od_sum_along an_sum_along : Option Addr} {sl_sum_along : Array (Option Value)} {oc_sum_along kV_sum_along dc_sum_along pm_sum_along cd_sum_along ct_sum_along : Value}
    {ad_whole : Addr} {od_whole an_whole : Option Addr} {sl_whole : Array (Option Value)} {oc_whole kV_whole dc_whole pm_whole cd_whole ct_whole : Value}
    {ad_turned : Addr} {od_turned an_turned : Option Addr} {sl_turned : Array (Option Value)} {oc_turned kV_turned dc_turned pm_turned cd_turned ct_turned : Value}
    {ad_other_way : Addr} {od_other_way an_other_way : Option Addr} {sl_other_way : Array (Option Value)} {oc_other_way kV_other_way dc_other_way pm_other_way cd_other_way ct_other_way : Value}
    {ad_put_together : Addr} {od_put_together an_put_together : Option Addr} {sl_put_together : Array (Option Value)} {oc_put_together kV_put_together dc_put_together pm_put_together cd_put_together ct_put_together : Value}
    {ad_product : Addr} {od_product an_product : Option Addr} {sl_product : Array (Option Value)} {oc_product kV_product dc_product pm_product cd_product ct_product : Value}
    {ad_Even_shows : Addr} {od_Even_shows an_Even_shows : Option Addr} {sl_Even_shows : Array (Option Value)} {oc_Even_shows kV_Even_shows dc_Even_shows pm_Even_shows cd_Even_shows ct_Even_shows : Value}
    {ad_Unlike_shows : Addr} {od_Unlike_shows an_Unlike_shows : Option Addr} {sl_Unlike_shows : Array (Option Value)} {oc_Unlike_shows kV_Unlike_shows dc_Unlike_shows pm_Unlike_shows cd_Unlike_shows ct_Unlike_shows : Value}
    {ad_told : Addr} {od_told an_told : Option Addr} {sl_told : Array (Option Value)} {oc_told kV_told dc_told pm_told cd_told ct_told : Value}
    {ad_three : Addr} {od_three an_three : Option Addr} {sl_three : Array (Option Value)} {oc_three kV_three dc_three pm_three cd_three ct_three : Value}
    {ad_parts : Addr} {od_parts an_parts : Option Addr} {sl_parts : Array (Option Value)} {oc_parts kV_parts dc_parts pm_parts cd_parts ct_parts : Value}
    {ad_asked_order : Addr} {od_asked_order an_asked_order : Option Addr} {sl_asked_order : Array (Option Value)} {oc_asked_order kV_asked_order dc_asked_order pm_asked_order cd_asked_order ct_asked_order : Value}
    {ad_odd_number : Addr} {od_odd_number an_odd_number : Option Addr} {sl_odd_number : Array (Option Value)} {oc_odd_number kV_odd_number dc_odd_number pm_odd_number cd_odd_number ct_odd_number : Value}
    {ad_odd_place : Addr} {od_odd_place an_odd_place : Option Addr} {sl_odd_place : Array (Option Value)} {oc_odd_place kV_odd_place dc_odd_place pm_odd_place cd_odd_place ct_odd_place : Value}
    {ad_letter : Addr} {od_letter an_letter : Option Addr} {sl_letter : Array (Option Value)} {oc_letter kV_letter dc_letter pm_letter cd_letter ct_letter : Value}
    {ad_is_back : Addr} {od_is_back an_is_back : Option Addr} {sl_is_back : Array (Option Value)} {oc_is_back kV_is_back dc_is_back pm_is_back cd_is_back ct_is_back : Value}
    {ad_number_of : Addr} {od_number_of an_number_of : Option Addr} {sl_number_of : Array (Option Value)} {oc_number_of kV_number_of dc_number_of pm_number_of cd_number_of ct_number_of : Value}
    {ad_number_at : Addr} {od_number_at an_number_at : Option Addr} {sl_number_at : Array (Option Value)} {oc_number_at kV_number_at dc_number_at pm_number_at cd_number_at ct_number_at : Value}
    {ad_place_of : Addr} {od_place_of an_place_of : Option Addr} {sl_place_of : Array (Option Value)} {oc_place_of kV_place_of dc_place_of pm_place_of cd_place_of ct_place_of : Value}
    {ad_made : Addr} {od_made an_made : Option Addr} {sl_made : Array (Option Value)} {oc_made kV_made dc_made pm_made cd_made ct_made : Value}
    {ad_total : Addr} {od_total an_total : Option Addr} {sl_total : Array (Option Value)} {oc_total kV_total dc_total pm_total cd_total ct_total : Value}
    {ad__law_number : Addr} {od__law_number an__law_number : Option Addr} {sl__law_number : Array (Option Value)} {oc__law_number kV__law_number dc__law_number pm__law_number cd__law_number ct__law_number : Value}
    {ad__law_plain : Addr} {od__law_plain an__law_plain : Option Addr} {sl__law_plain : Array (Option Value)} {oc__law_plain kV__law_plain dc__law_plain pm__law_plain cd__law_plain ct__law_plain : Value}
    {ad__law_truths : Addr} {od__law_truths an__law_truths : Option Addr} {sl__law_truths : Array (Option Value)} {oc__law_truths kV__law_truths dc__law_truths pm__law_truths cd__law_truths ct__law_truths : Value}
    {ad__law_square_right : Addr} {od__law_square_right an__law_square_right : Option Addr} {sl__law_square_right : Array (Option Value)} {oc__law_square_right kV__law_square_right dc__law_square_right pm__law_square_right cd__law_square_right ct__law_square_right : Value}
    {ad__law_no_of : Addr} {od__law_no_of an__law_no_of : Option Addr} {sl__law_no_of : Array (Option Value)} {oc__law_no_of kV__law_no_of dc__law_no_of pm__law_no_of cd__law_no_of ct__law_no_of : Value}
    {ad__law_made_promises cc__law_made_promises P__law_made_promises : Addr} {od__law_made_promises an__law_made_promises oe__law_made_promises : Option Addr} {sl__law_made_promises sm__law_made_promises : Array (Option Value)} {oc__law_made_promises kV__law_made_promises dc__law_made_promises pm__law_made_promises ct__law_made_promises : Value} {vs__law_made_promises : Array Value} {fi__law_made_promises : Str} {tf__law_made_promises tg__law_made_promises tt__law_made_promises : Tok} {fl__law_made_promises tx__law_made_promises : Int} {nf__law_made_promises : Bool}
    {ad__law_promises_right : Addr} {od__law_promises_right an__law_promises_right : Option Addr} {sl__law_promises_right : Array (Option Value)} {oc__law_promises_right kV__law_promises_right dc__law_promises_right pm__law_promises_right cd__law_promises_right ct__law_promises_right : Value}
    {ad__law_others_promises cc__law_others_promises P__law_others_promises : Addr} {od__law_others_promises an__law_others_promises oe__law_others_promises : Option Addr} {sl__law_others_promises sm__law_others_promises : Array (Option Value)} {oc__law_others_promises kV__law_others_promises dc__law_others_promises pm__law_others_promises ct__law_others_promises : Value} {vs__law_others_promises : Array Value} {fi__law_others_promises : Str} {tf__law_others_promises tg__law_others_promises tt__law_others_promises : Tok} {fl__law_others_promises tx__law_others_promises : Int} {nf__law_others_promises : Bool}
    {ad_law : Addr} {od_law an_law : Option Addr} {sl_law : Array (Option Value)} {oc_law kV_law dc_law pm_law cd_law ct_law : Value}
    {C_SquareError : Addr}
    {C_BadOrder : Addr}
    {C_BadPlace : Addr}
    {C_BadNumber : Addr}
    {C_BadSquare : Addr}
    {C_NotEven : Addr}
    {C_TooGreat : Addr}
    {q_MOST : Tok}
    {A_FOUR : Addr} {es_FOUR : Array DictEntry} {n_FOUR : Nat}
    {B_FOUR_L : Addr}
    {b_FOUR_L_0 : Addr}
    {b_FOUR_L_1 : Addr}
    {b_FOUR_L_2 : Addr}
    {b_FOUR_L_3 : Addr}
    {j_FOUR_L : Nat} {w_FOUR_L : Array (Option Value)}
    {t_FOUR_L_0 r_FOUR_L_0 : Tok} {jj_FOUR_L_0 : Nat} {ww_FOUR_L_0 : Array (Option Value)}
    {t_FOUR_L_1 r_FOUR_L_1 : Tok} {jj_FOUR_L_1 : Nat} {ww_FOUR_L_1 : Array (Option Value)}
    {t_FOUR_L_2 r_FOUR_L_2 : Tok} {jj_FOUR_L_2 : Nat} {ww_FOUR_L_2 : Array (Option Value)}
    {t_FOUR_L_3 r_FOUR_L_3 : Tok} {jj_FOUR_L_3 : Nat} {ww_FOUR_L_3 : Array (Option Value)}
    {B_FOUR_U : Addr}
    {b_FOUR_U_0 : Addr}
    {b_FOUR_U_1 : Addr}
    {b_FOUR_U_2 : Addr}
    {b_FOUR_U_3 : Addr}
    {j_FOUR_U : Nat} {w_FOUR_U : Array (Option Value)}
    {t_FOUR_U_0 r_FOUR_U_0 : Tok} {jj_FOUR_U_0 : Nat} {ww_FOUR_U_0 : Array (Option Value)}
    {t_FOUR_U_1 r_FOUR_U_1 : Tok} {jj_FOUR_U_1 : Nat} {ww_FOUR_U_1 : Array (Option Value)}
    {t_FOUR_U_2 r_FOUR_U_2 : Tok} {jj_FOUR_U_2 : Nat} {ww_FOUR_U_2 : Array (Option Value)}
    {t_FOUR_U_3 r_FOUR_U_3 : Tok} {jj_FOUR_U_3 : Nat} {ww_FOUR_U_3 : Array (Option Value)}
    {B_FOUR_X : Addr}
    {b_FOUR_X_0 : Addr}
    {b_FOUR_X_1 : Addr}
    {b_FOUR_X_2 : Addr}
    {b_FOUR_X_3 : Addr}
    {j_FOUR_X : Nat} {w_FOUR_X : Array (Option Value)}
    {t_FOUR_X_0 r_FOUR_X_0 : Tok} {jj_FOUR_X_0 : Nat} {ww_FOUR_X_0 : Array (Option Value)}
    {t_FOUR_X_1 r_FOUR_X_1 : Tok} {jj_FOUR_X_1 : Nat} {ww_FOUR_X_1 : Array (Option Value)}
    {t_FOUR_X_2 r_FOUR_X_2 : Tok} {jj_FOUR_X_2 : Nat} {ww_FOUR_X_2 : Array (Option Value)}
    {t_FOUR_X_3 r_FOUR_X_3 : Tok} {jj_FOUR_X_3 : Nat} {ww_FOUR_X_3 : Array (Option Value)}
    (a_Even : PySem.W.nsIn K mainGlobals "Even" = some (some (.ref C_Even)))
    (a_Unlike : PySem.W.nsIn K mainGlobals "Unlike" = some (some (.ref C_Unlike)))
    (ai_Even : PySem.W.findIn K (.ref C_Even) "__init__" = some (some (.ref ad_initEven)))
    (ii_Even : PySem.W.isFn K (.ref ad_initEven) = true)
    (li_Even : K.lookup ad_initEven = some ⟨oc_initEven, od_initEven, .func (PySem.W.fnOf "__init__" "Even.__init__" (defArgs si_Even) (defBody si_Even) (defScope si_Even) .none kV_initEven dc_initEven pm_initEven an_initEven cd_initEven ct_initEven), sl_initEven⟩)
    (ci_Even : PySem.W.codeIn K cd_initEven "Even.__init__" = true)
    (ki_Even : PySem.W.keepIn K (.ref ad_initEven) = true)
    (pg_Even : PySem.W.plainGet K C_Even Str.empty = true)
    (hd_Even : PySem.W.hasDictIn K C_Even = true)
    (po_Even : PySem.W.plainOver K C_Even = true)
    (sa_Even : PySem.W.findIn K (.ref C_Even) "__setattr__" = some (some (.builtin "object.__setattr__")))
    (mk_Even : PySem.W.makesIn K C_Even = true)
    (kc_Even : PySem.W.keepIn K (.ref C_Even) = true)
    (cc_Even : PySem.W.findIn K (.ref C_Even) "__class__" = some (some (.builtin "object.__class__")))
    (mr_Even : PySem.W.mroIn K C_Even (.type "object") = some true)
    (n_Even_total : PySem.W.findIn K (.ref C_Even) "total" = some none)
    (ai_Unlike : PySem.W.findIn K (.ref C_Unlike) "__init__" = some (some (.ref ad_initUnlike)))
    (ii_Unlike : PySem.W.isFn K (.ref ad_initUnlike) = true)
    (li_Unlike : K.lookup ad_initUnlike = some ⟨oc_initUnlike, od_initUnlike, .func (PySem.W.fnOf "__init__" "Unlike.__init__" (defArgs si_Unlike) (defBody si_Unlike) (defScope si_Unlike) .none kV_initUnlike dc_initUnlike pm_initUnlike an_initUnlike cd_initUnlike ct_initUnlike), sl_initUnlike⟩)
    (ci_Unlike : PySem.W.codeIn K cd_initUnlike "Unlike.__init__" = true)
    (ki_Unlike : PySem.W.keepIn K (.ref ad_initUnlike) = true)
    (pg_Unlike : PySem.W.plainGet K C_Unlike Str.empty = true)
    (hd_Unlike : PySem.W.hasDictIn K C_Unlike = true)
    (po_Unlike : PySem.W.plainOver K C_Unlike = true)
    (sa_Unlike : PySem.W.findIn K (.ref C_Unlike) "__setattr__" = some (some (.builtin "object.__setattr__")))
    (mk_Unlike : PySem.W.makesIn K C_Unlike = true)
    (kc_Unlike : PySem.W.keepIn K (.ref C_Unlike) = true)
    (cc_Unlike : PySem.W.findIn K (.ref C_Unlike) "__class__" = some (some (.builtin "object.__class__")))
    (mr_Unlike : PySem.W.mroIn K C_Unlike (.type "object") = some true)
    (n_Unlike_one : PySem.W.findIn K (.ref C_Unlike) "one" = some none)
    (n_Unlike_other : PySem.W.findIn K (.ref C_Unlike) "other" = some none)
    (og : PySem.W.specialIn K (.builtin "object.__class__") "__get__" = some (some (.builtin "getset_descriptor.__get__")))
    (ot : PySem.W.takesIn K (.builtin "object.__class__") = some true)
    (k1_Even : PySem.W.kitOne K (.ref C_Even) (.ref C_Even) = some true)
    (k2_Even : PySem.W.kitOne K (.ref C_Unlike) (.ref C_Even) = some false)
    (k1_Unlike : PySem.W.kitOne K (.ref C_Even) (.ref C_Unlike) = some false)
    (k2_Unlike : PySem.W.kitOne K (.ref C_Unlike) (.ref C_Unlike) = some true)
    (a_is_number : PySem.W.nsIn K mainGlobals "is_number" = some (some (.ref ad_is_number)))
    (l_is_number : K.lookup ad_is_number = some ⟨oc_is_number, od_is_number, .func (PySem.W.fnOf "is_number" "is_number" (defArgs s_is_number) (defBody s_is_number) (defScope s_is_number) .none kV_is_number dc_is_number pm_is_number an_is_number cd_is_number ct_is_number), sl_is_number⟩)
    (c_is_number : PySem.W.codeIn K cd_is_number "is_number" = true)
    (k_is_number : PySem.W.keepIn K (.ref ad_is_number) = true)
    (a_asked_square : PySem.W.nsIn K mainGlobals "asked_square" = some (some (.ref ad_asked_square)))
    (l_asked_square : K.lookup ad_asked_square = some ⟨oc_asked_square, od_asked_square, .func (PySem.W.fnOf "asked_square" "asked_square" (defArgs s_asked_square) (defBody s_asked_square) (defScope s_asked_square) .none kV_asked_square dc_asked_square pm_asked_square an_asked_square cd_asked_square ct_asked_square), sl_asked_square⟩)
    (c_asked_square : PySem.W.codeIn K cd_asked_square "asked_square" = true)
    (k_asked_square : PySem.W.keepIn K (.ref ad_asked_square) = true)
    (a_lines : PySem.W.nsIn K mainGlobals "lines" = some (some (.ref ad_lines)))
    (l_lines : K.lookup ad_lines = some ⟨oc_lines, od_lines, .func (PySem.W.fnOf "lines" "lines" (defArgs s_lines) (defBody s_lines) (defScope s_lines) .none kV_lines dc_lines pm_lines an_lines cd_lines ct_lines), sl_lines⟩)
    (c_lines : PySem.W.codeIn K cd_lines "lines" = true)
    (k_lines : PySem.W.keepIn K (.ref ad_lines) = true)
    (a_sum_along : PySem.W.nsIn K mainGlobals "sum_along" = some (some (.ref ad_sum_along)))
    (l_sum_along : K.lookup ad_sum_along = some ⟨oc_sum_along, od_sum_along, .func (PySem.W.fnOf "sum_along" "sum_along" (defArgs s_sum_along) (defBody s_sum_along) (defScope s_sum_along) .none kV_sum_along dc_sum_along pm_sum_along an_sum_along cd_sum_along ct_sum_along), sl_sum_along⟩)
    (c_sum_along : PySem.W.codeIn K cd_sum_along "sum_along" = true)
    (k_sum_along : PySem.W.keepIn K (.ref ad_sum_along) = true)
    (a_whole : PySem.W.nsIn K mainGlobals "whole" = some (some (.ref ad_whole)))
    (l_whole : K.lookup ad_whole = some ⟨oc_whole, od_whole, .func (PySem.W.fnOf "whole" "whole" (defArgs s_whole) (defBody s_whole) (defScope s_whole) .none kV_whole dc_whole pm_whole an_whole cd_whole ct_whole), sl_whole⟩)
    (c_whole : PySem.W.codeIn K cd_whole "whole" = true)
    (k_whole : PySem.W.keepIn K (.ref ad_whole) = true)
    (a_turned : PySem.W.nsIn K mainGlobals "turned" = some (some (.ref ad_turned)))
    (l_turned : K.lookup ad_turned = some ⟨oc_turned, od_turned, .func (PySem.W.fnOf "turned" "turned" (defArgs s_turned) (defBody s_turned) (defScope s_turned) .none kV_turned dc_turned pm_turned an_turned cd_turned ct_turned), sl_turned⟩)
    (c_turned : PySem.W.codeIn K cd_turned "turned" = true)
    (k_turned : PySem.W.keepIn K (.ref ad_turned) = true)
    (a_other_way : PySem.W.nsIn K mainGlobals "other_way" = some (some (.ref ad_other_way)))
    (l_other_way : K.lookup ad_other_way = some ⟨oc_other_way, od_other_way, .func (PySem.W.fnOf "other_way" "other_way" (defArgs s_other_way) (defBody s_other_way) (defScope s_other_way) .none kV_other_way dc_other_way pm_other_way an_other_way cd_other_way ct_other_way), sl_other_way⟩)
    (c_other_way : PySem.W.codeIn K cd_other_way "other_way" = true)
    (k_other_way : PySem.W.keepIn K (.ref ad_other_way) = true)
    (a_put_together : PySem.W.nsIn K mainGlobals "put_together" = some (some (.ref ad_put_together)))
    (l_put_together : K.lookup ad_put_together = some ⟨oc_put_together, od_put_together, .func (PySem.W.fnOf "put_together" "put_together" (defArgs s_put_together) (defBody s_put_together) (defScope s_put_together) .none kV_put_together dc_put_together pm_put_together an_put_together cd_put_together ct_put_together), sl_put_together⟩)
    (c_put_together : PySem.W.codeIn K cd_put_together "put_together" = true)
    (k_put_together : PySem.W.keepIn K (.ref ad_put_together) = true)
    (a_product : PySem.W.nsIn K mainGlobals "product" = some (some (.ref ad_product)))
    (l_product : K.lookup ad_product = some ⟨oc_product, od_product, .func (PySem.W.fnOf "product" "product" (defArgs s_product) (defBody s_product) (defScope s_product) .none kV_product dc_product pm_product an_product cd_product ct_product), sl_product⟩)
    (c_product : PySem.W.codeIn K cd_product "product" = true)
    (k_product : PySem.W.keepIn K (.ref ad_product) = true)
    (a_Even_shows : PySem.W.findIn K (.ref C_Even) "shows" = some (some (.ref ad_Even_shows)))
    (i_Even_shows : PySem.W.isFn K (.ref ad_Even_shows) = true)
    (l_Even_shows : K.lookup ad_Even_shows = some ⟨oc_Even_shows, od_Even_shows, .func (PySem.W.fnOf "shows" "Even.shows" (defArgs s_Even_shows) (defBody s_Even_shows) (defScope s_Even_shows) .none kV_Even_shows dc_Even_shows pm_Even_shows an_Even_shows cd_Even_shows ct_Even_shows), sl_Even_shows⟩)
    (c_Even_shows : PySem.W.codeIn K cd_Even_shows "Even.shows" = true)
    (k_Even_shows : PySem.W.keepIn K (.ref ad_Even_shows) = true)
    (a_Unlike_shows : PySem.W.findIn K (.ref C_Unlike) "shows" = some (some (.ref ad_Unlike_shows)))
    (i_Unlike_shows : PySem.W.isFn K (.ref ad_Unlike_shows) = true)
    (l_Unlike_shows : K.lookup ad_Unlike_shows = some ⟨oc_Unlike_shows, od_Unlike_shows, .func (PySem.W.fnOf "shows" "Unlike.shows" (defArgs s_Unlike_shows) (defBody s_Unlike_shows) (defScope s_Unlike_shows) .none kV_Unlike_shows dc_Unlike_shows pm_Unlike_shows an_Unlike_shows cd_Unlike_shows ct_Unlike_shows), sl_Unlike_shows⟩)
    (c_Unlike_shows : PySem.W.codeIn K cd_Unlike_shows "Unlike.shows" = true)
    (k_Unlike_shows : PySem.W.keepIn K (.ref ad_Unlike_shows) = true)
    (a_told : PySem.W.nsIn K mainGlobals "told" = some (some (.ref ad_told)))
    (l_told : K.lookup ad_told = some ⟨oc_told, od_told, .func (PySem.W.fnOf "told" "told" (defArgs s_told) (defBody s_told) (defScope s_told) .none kV_told dc_told pm_told an_told cd_told ct_told), sl_told⟩)
    (c_told : PySem.W.codeIn K cd_told "told" = true)
    (k_told : PySem.W.keepIn K (.ref ad_told) = true)
    (a_three : PySem.W.nsIn K mainGlobals "three" = some (some (.ref ad_three)))
    (l_three : K.lookup ad_three = some ⟨oc_three, od_three, .func (PySem.W.fnOf "three" "three" (defArgs s_three) (defBody s_three) (defScope s_three) .none kV_three dc_three pm_three an_three cd_three ct_three), sl_three⟩)
    (c_three : PySem.W.codeIn K cd_three "three" = true)
    (k_three : PySem.W.keepIn K (.ref ad_three) = true)
    (a_parts : PySem.W.nsIn K mainGlobals "parts" = some (some (.ref ad_parts)))
    (l_parts : K.lookup ad_parts = some ⟨oc_parts, od_parts, .func (PySem.W.fnOf "parts" "parts" (defArgs s_parts) (defBody s_parts) (defScope s_parts) .none kV_parts dc_parts pm_parts an_parts cd_parts ct_parts), sl_parts⟩)
    (c_parts : PySem.W.codeIn K cd_parts "parts" = true)
    (k_parts : PySem.W.keepIn K (.ref ad_parts) = true)
    (a_asked_order : PySem.W.nsIn K mainGlobals "asked_order" = some (some (.ref ad_asked_order)))
    (l_asked_order : K.lookup ad_asked_order = some ⟨oc_asked_order, od_asked_order, .func (PySem.W.fnOf "asked_order" "asked_order" (defArgs s_asked_order) (defBody s_asked_order) (defScope s_asked_order) .none kV_asked_order dc_asked_order pm_asked_order an_asked_order cd_asked_order ct_asked_order), sl_asked_order⟩)
    (c_asked_order : PySem.W.codeIn K cd_asked_order "asked_order" = true)
    (k_asked_order : PySem.W.keepIn K (.ref ad_asked_order) = true)
    (a_odd_number : PySem.W.nsIn K mainGlobals "odd_number" = some (some (.ref ad_odd_number)))
    (l_odd_number : K.lookup ad_odd_number = some ⟨oc_odd_number, od_odd_number, .func (PySem.W.fnOf "odd_number" "odd_number" (defArgs s_odd_number) (defBody s_odd_number) (defScope s_odd_number) .none kV_odd_number dc_odd_number pm_odd_number an_odd_number cd_odd_number ct_odd_number), sl_odd_number⟩)
    (c_odd_number : PySem.W.codeIn K cd_odd_number "odd_number" = true)
    (k_odd_number : PySem.W.keepIn K (.ref ad_odd_number) = true)
    (a_odd_place : PySem.W.nsIn K mainGlobals "odd_place" = some (some (.ref ad_odd_place)))
    (l_odd_place : K.lookup ad_odd_place = some ⟨oc_odd_place, od_odd_place, .func (PySem.W.fnOf "odd_place" "odd_place" (defArgs s_odd_place) (defBody s_odd_place) (defScope s_odd_place) .none kV_odd_place dc_odd_place pm_odd_place an_odd_place cd_odd_place ct_odd_place), sl_odd_place⟩)
    (c_odd_place : PySem.W.codeIn K cd_odd_place "odd_place" = true)
    (k_odd_place : PySem.W.keepIn K (.ref ad_odd_place) = true)
    (a_letter : PySem.W.nsIn K mainGlobals "letter" = some (some (.ref ad_letter)))
    (l_letter : K.lookup ad_letter = some ⟨oc_letter, od_letter, .func (PySem.W.fnOf "letter" "letter" (defArgs s_letter) (defBody s_letter) (defScope s_letter) .none kV_letter dc_letter pm_letter an_letter cd_letter ct_letter), sl_letter⟩)
    (c_letter : PySem.W.codeIn K cd_letter "letter" = true)
    (k_letter : PySem.W.keepIn K (.ref ad_letter) = true)
    (a_is_back : PySem.W.nsIn K mainGlobals "is_back" = some (some (.ref ad_is_back)))
    (l_is_back : K.lookup ad_is_back = some ⟨oc_is_back, od_is_back, .func (PySem.W.fnOf "is_back" "is_back" (defArgs s_is_back) (defBody s_is_back) (defScope s_is_back) .none kV_is_back dc_is_back pm_is_back an_is_back cd_is_back ct_is_back), sl_is_back⟩)
    (c_is_back : PySem.W.codeIn K cd_is_back "is_back" = true)
    (k_is_back : PySem.W.keepIn K (.ref ad_is_back) = true)
    (a_number_of : PySem.W.nsIn K mainGlobals "number_of" = some (some (.ref ad_number_of)))
    (l_number_of : K.lookup ad_number_of = some ⟨oc_number_of, od_number_of, .func (PySem.W.fnOf "number_of" "number_of" (defArgs s_number_of) (defBody s_number_of) (defScope s_number_of) .none kV_number_of dc_number_of pm_number_of an_number_of cd_number_of ct_number_of), sl_number_of⟩)
    (c_number_of : PySem.W.codeIn K cd_number_of "number_of" = true)
    (k_number_of : PySem.W.keepIn K (.ref ad_number_of) = true)
    (a_number_at : PySem.W.nsIn K mainGlobals "number_at" = some (some (.ref ad_number_at)))
    (l_number_at : K.lookup ad_number_at = some ⟨oc_number_at, od_number_at, .func (PySem.W.fnOf "number_at" "number_at" (defArgs s_number_at) (defBody s_number_at) (defScope s_number_at) .none kV_number_at dc_number_at pm_number_at an_number_at cd_number_at ct_number_at), sl_number_at⟩)
    (c_number_at : PySem.W.codeIn K cd_number_at "number_at" = true)
    (k_number_at : PySem.W.keepIn K (.ref ad_number_at) = true)
    (a_place_of : PySem.W.nsIn K mainGlobals "place_of" = some (some (.ref ad_place_of)))
    (l_place_of : K.lookup ad_place_of = some ⟨oc_place_of, od_place_of, .func (PySem.W.fnOf "place_of" "place_of" (defArgs s_place_of) (defBody s_place_of) (defScope s_place_of) .none kV_place_of dc_place_of pm_place_of an_place_of cd_place_of ct_place_of), sl_place_of⟩)
    (c_place_of : PySem.W.codeIn K cd_place_of "place_of" = true)
    (k_place_of : PySem.W.keepIn K (.ref ad_place_of) = true)
    (a_made : PySem.W.nsIn K mainGlobals "made" = some (some (.ref ad_made)))
    (l_made : K.lookup ad_made = some ⟨oc_made, od_made, .func (PySem.W.fnOf "made" "made" (defArgs s_made) (defBody s_made) (defScope s_made) .none kV_made dc_made pm_made an_made cd_made ct_made), sl_made⟩)
    (c_made : PySem.W.codeIn K cd_made "made" = true)
    (k_made : PySem.W.keepIn K (.ref ad_made) = true)
    (a_total : PySem.W.nsIn K mainGlobals "total" = some (some (.ref ad_total)))
    (l_total : K.lookup ad_total = some ⟨oc_total, od_total, .func (PySem.W.fnOf "total" "total" (defArgs s_total) (defBody s_total) (defScope s_total) .none kV_total dc_total pm_total an_total cd_total ct_total), sl_total⟩)
    (c_total : PySem.W.codeIn K cd_total "total" = true)
    (k_total : PySem.W.keepIn K (.ref ad_total) = true)
    (a__law_number : PySem.W.nsIn K mainGlobals "_law_number" = some (some (.ref ad__law_number)))
    (l__law_number : K.lookup ad__law_number = some ⟨oc__law_number, od__law_number, .func (PySem.W.fnOf "_law_number" "_law_number" (defArgs s__law_number) (defBody s__law_number) (defScope s__law_number) .none kV__law_number dc__law_number pm__law_number an__law_number cd__law_number ct__law_number), sl__law_number⟩)
    (c__law_number : PySem.W.codeIn K cd__law_number "_law_number" = true)
    (k__law_number : PySem.W.keepIn K (.ref ad__law_number) = true)
    (a__law_plain : PySem.W.nsIn K mainGlobals "_law_plain" = some (some (.ref ad__law_plain)))
    (l__law_plain : K.lookup ad__law_plain = some ⟨oc__law_plain, od__law_plain, .func (PySem.W.fnOf "_law_plain" "_law_plain" (defArgs s__law_plain) (defBody s__law_plain) (defScope s__law_plain) .none kV__law_plain dc__law_plain pm__law_plain an__law_plain cd__law_plain ct__law_plain), sl__law_plain⟩)
    (c__law_plain : PySem.W.codeIn K cd__law_plain "_law_plain" = true)
    (k__law_plain : PySem.W.keepIn K (.ref ad__law_plain) = true)
    (a__law_truths : PySem.W.nsIn K mainGlobals "_law_truths" = some (some (.ref ad__law_truths)))
    (l__law_truths : K.lookup ad__law_truths = some ⟨oc__law_truths, od__law_truths, .func (PySem.W.fnOf "_law_truths" "_law_truths" (defArgs s__law_truths) (defBody s__law_truths) (defScope s__law_truths) .none kV__law_truths dc__law_truths pm__law_truths an__law_truths cd__law_truths ct__law_truths), sl__law_truths⟩)
    (c__law_truths : PySem.W.codeIn K cd__law_truths "_law_truths" = true)
    (k__law_truths : PySem.W.keepIn K (.ref ad__law_truths) = true)
    (a__law_square_right : PySem.W.nsIn K mainGlobals "_law_square_right" = some (some (.ref ad__law_square_right)))
    (l__law_square_right : K.lookup ad__law_square_right = some ⟨oc__law_square_right, od__law_square_right, .func (PySem.W.fnOf "_law_square_right" "_law_square_right" (defArgs s__law_square_right) (defBody s__law_square_right) (defScope s__law_square_right) .none kV__law_square_right dc__law_square_right pm__law_square_right an__law_square_right cd__law_square_right ct__law_square_right), sl__law_square_right⟩)
    (c__law_square_right : PySem.W.codeIn K cd__law_square_right "_law_square_right" = true)
    (k__law_square_right : PySem.W.keepIn K (.ref ad__law_square_right) = true)
    (a__law_no_of : PySem.W.nsIn K mainGlobals "_law_no_of" = some (some (.ref ad__law_no_of)))
    (l__law_no_of : K.lookup ad__law_no_of = some ⟨oc__law_no_of, od__law_no_of, .func (PySem.W.fnOf "_law_no_of" "_law_no_of" (defArgs s__law_no_of) (defBody s__law_no_of) (defScope s__law_no_of) .none kV__law_no_of dc__law_no_of pm__law_no_of an__law_no_of cd__law_no_of ct__law_no_of), sl__law_no_of⟩)
    (c__law_no_of : PySem.W.codeIn K cd__law_no_of "_law_no_of" = true)
    (k__law_no_of : PySem.W.keepIn K (.ref ad__law_no_of) = true)
    (a__law_made_promises : PySem.W.nsIn K mainGlobals "_law_made_promises" = some (some (.ref ad__law_made_promises)))
    (l__law_made_promises : K.lookup ad__law_made_promises = some ⟨oc__law_made_promises, od__law_made_promises, .func (PySem.W.fnOf "_law_made_promises" "_law_made_promises" (defArgs s__law_made_promises) (defBody s__law_made_promises) (defScope s__law_made_promises) .none kV__law_made_promises dc__law_made_promises pm__law_made_promises an__law_made_promises (.ref cc__law_made_promises) ct__law_made_promises), sl__law_made_promises⟩)
    (c__law_made_promises : PySem.W.codeIn K (.ref cc__law_made_promises) "_law_made_promises" = true)
    (k__law_made_promises : PySem.W.keepIn K (.ref ad__law_made_promises) = true)
    (lc__law_made_promises : K.lookup cc__law_made_promises = some ⟨.type "code", oe__law_made_promises, .fields vs__law_made_promises, sm__law_made_promises⟩)
    (v11__law_made_promises : vs__law_made_promises[11]? = some (.ref P__law_made_promises))
    (v1d__law_made_promises : vs__law_made_promises.getD 11 .none = .ref P__law_made_promises)
    (v18__law_made_promises : vs__law_made_promises.getD 18 .none = .str fi__law_made_promises tf__law_made_promises)
    (v07__law_made_promises : vs__law_made_promises.getD 7 .none = .int fl__law_made_promises tg__law_made_promises)
    (v09__law_made_promises : vs__law_made_promises.getD 9 .none = .bool nf__law_made_promises)
    (v10__law_made_promises : vs__law_made_promises.getD 10 .none = .int tx__law_made_promises tt__law_made_promises)
    (ncP__law_made_promises : cc__law_made_promises ≠ P__law_made_promises)
    (noP__law_made_promises : K.lookup P__law_made_promises = none)
    (a__law_promises_right : PySem.W.nsIn K mainGlobals "_law_promises_right" = some (some (.ref ad__law_promises_right)))
    (l__law_promises_right : K.lookup ad__law_promises_right = some ⟨oc__law_promises_right, od__law_promises_right, .func (PySem.W.fnOf "_law_promises_right" "_law_promises_right" (defArgs s__law_promises_right) (defBody s__law_promises_right) (defScope s__law_promises_right) .none kV__law_promises_right dc__law_promises_right pm__law_promises_right an__law_promises_right cd__law_promises_right ct__law_promises_right), sl__law_promises_right⟩)
    (c__law_promises_right : PySem.W.codeIn K cd__law_promises_right "_law_promises_right" = true)
    (k__law_promises_right : PySem.W.keepIn K (.ref ad__law_promises_right) = true)
    (a__law_others_promises : PySem.W.nsIn K mainGlobals "_law_others_promises" = some (some (.ref ad__law_others_promises)))
    (l__law_others_promises : K.lookup ad__law_others_promises = some ⟨oc__law_others_promises, od__law_others_promises, .func (PySem.W.fnOf "_law_others_promises" "_law_others_promises" (defArgs s__law_others_promises) (defBody s__law_others_promises) (defScope s__law_others_promises) .none kV__law_others_promises dc__law_others_promises pm__law_others_promises an__law_others_promises (.ref cc__law_others_promises) ct__law_others_promises), sl__law_others_promises⟩)
    (c__law_others_promises : PySem.W.codeIn K (.ref cc__law_others_promises) "_law_others_promises" = true)
    (k__law_others_promises : PySem.W.keepIn K (.ref ad__law_others_promises) = true)
    (lc__law_others_promises : K.lookup cc__law_others_promises = some ⟨.type "code", oe__law_others_promises, .fields vs__law_others_promises, sm__law_others_promises⟩)
    (v11__law_others_promises : vs__law_others_promises[11]? = some (.ref P__law_others_promises))
    (v1d__law_others_promises : vs__law_others_promises.getD 11 .none = .ref P__law_others_promises)
    (v18__law_others_promises : vs__law_others_promises.getD 18 .none = .str fi__law_others_promises tf__law_others_promises)
    (v07__law_others_promises : vs__law_others_promises.getD 7 .none = .int fl__law_others_promises tg__law_others_promises)
    (v09__law_others_promises : vs__law_others_promises.getD 9 .none = .bool nf__law_others_promises)
    (v10__law_others_promises : vs__law_others_promises.getD 10 .none = .int tx__law_others_promises tt__law_others_promises)
    (ncP__law_others_promises : cc__law_others_promises ≠ P__law_others_promises)
    (noP__law_others_promises : K.lookup P__law_others_promises = none)
    (a_law : PySem.W.nsIn K mainGlobals "law" = some (some (.ref ad_law)))
    (l_law : K.lookup ad_law = some ⟨oc_law, od_law, .func (PySem.W.fnOf "law" "law" (defArgs s_law) (defBody s_law) (defScope s_law) .none kV_law dc_law pm_law an_law cd_law ct_law), sl_law⟩)
    (c_law : PySem.W.codeIn K cd_law "law" = true)
    (k_law : PySem.W.keepIn K (.ref ad_law) = true)
    (a_SquareError : PySem.W.nsIn K mainGlobals "SquareError" = some (some (.ref C_SquareError)))
    (x_SquareError : PySem.W.excIn K C_SquareError [.type "ValueError", .type "Exception", .type "BaseException", .type "object"] "ValueError.__new__" = true)
    (k_SquareError : PySem.W.keepIn K (.ref C_SquareError) = true)
    (s_SquareError : PySem.W.subIn K (.ref C_SquareError) (.type "BaseException") = some true)
    (t_SquareError : PySem.W.typeIn K (.ref C_SquareError) = some (.type "type"))
    (a_BadOrder : PySem.W.nsIn K mainGlobals "BadOrder" = some (some (.ref C_BadOrder)))
    (x_BadOrder : PySem.W.excIn K C_BadOrder [.type "ValueError", .type "Exception", .type "BaseException", .type "object"] "ValueError.__new__" = true)
    (k_BadOrder : PySem.W.keepIn K (.ref C_BadOrder) = true)
    (s_BadOrder : PySem.W.subIn K (.ref C_BadOrder) (.type "BaseException") = some true)
    (t_BadOrder : PySem.W.typeIn K (.ref C_BadOrder) = some (.type "type"))
    (a_BadPlace : PySem.W.nsIn K mainGlobals "BadPlace" = some (some (.ref C_BadPlace)))
    (x_BadPlace : PySem.W.excIn K C_BadPlace [.type "ValueError", .type "Exception", .type "BaseException", .type "object"] "ValueError.__new__" = true)
    (k_BadPlace : PySem.W.keepIn K (.ref C_BadPlace) = true)
    (s_BadPlace : PySem.W.subIn K (.ref C_BadPlace) (.type "BaseException") = some true)
    (t_BadPlace : PySem.W.typeIn K (.ref C_BadPlace) = some (.type "type"))
    (a_BadNumber : PySem.W.nsIn K mainGlobals "BadNumber" = some (some (.ref C_BadNumber)))
    (x_BadNumber : PySem.W.excIn K C_BadNumber [.type "ValueError", .type "Exception", .type "BaseException", .type "object"] "ValueError.__new__" = true)
    (k_BadNumber : PySem.W.keepIn K (.ref C_BadNumber) = true)
    (s_BadNumber : PySem.W.subIn K (.ref C_BadNumber) (.type "BaseException") = some true)
    (t_BadNumber : PySem.W.typeIn K (.ref C_BadNumber) = some (.type "type"))
    (a_BadSquare : PySem.W.nsIn K mainGlobals "BadSquare" = some (some (.ref C_BadSquare)))
    (x_BadSquare : PySem.W.excIn K C_BadSquare [.type "ValueError", .type "Exception", .type "BaseException", .type "object"] "ValueError.__new__" = true)
    (k_BadSquare : PySem.W.keepIn K (.ref C_BadSquare) = true)
    (s_BadSquare : PySem.W.subIn K (.ref C_BadSquare) (.type "BaseException") = some true)
    (t_BadSquare : PySem.W.typeIn K (.ref C_BadSquare) = some (.type "type"))
    (a_NotEven : PySem.W.nsIn K mainGlobals "NotEven" = some (some (.ref C_NotEven)))
    (x_NotEven : PySem.W.excIn K C_NotEven [.type "ValueError", .type "Exception", .type "BaseException", .type "object"] "ValueError.__new__" = true)
    (k_NotEven : PySem.W.keepIn K (.ref C_NotEven) = true)
    (s_NotEven : PySem.W.subIn K (.ref C_NotEven) (.type "BaseException") = some true)
    (t_NotEven : PySem.W.typeIn K (.ref C_NotEven) = some (.type "type"))
    (a_TooGreat : PySem.W.nsIn K mainGlobals "TooGreat" = some (some (.ref C_TooGreat)))
    (x_TooGreat : PySem.W.excIn K C_TooGreat [.type "ValueError", .type "Exception", .type "BaseException", .type "object"] "ValueError.__new__" = true)
    (k_TooGreat : PySem.W.keepIn K (.ref C_TooGreat) = true)
    (s_TooGreat : PySem.W.subIn K (.ref C_TooGreat) (.type "BaseException") = some true)
    (t_TooGreat : PySem.W.typeIn K (.ref C_TooGreat) = some (.type "type"))
    (ed_SquareError : PySem.W.hasDictIn K C_SquareError = true)
    (eg_BadOrder : PySem.W.findIn K (.ref C_BadOrder) "__getattribute__" = some (some (.builtin "BaseException.__getattribute__")))
    (ek_BadOrder : PySem.W.findIn K (.ref C_BadOrder) "__getattr__" = some none)
    (ed_BadOrder : PySem.W.hasDictIn K C_BadOrder = true)
    (ec_BadOrder : PySem.W.findIn K (.ref C_BadOrder) "__class__" = some (some (.builtin "object.__class__")))
    (em_BadOrder : PySem.W.mroIn K C_BadOrder (.type "object") = some true)
    (eq_BadOrder : PySem.W.subIn K (.ref C_BadOrder) (.ref C_SquareError) = some true)
    (k1_BadOrder_TooGreat : PySem.W.kitOne K (.ref C_BadOrder) (.ref C_TooGreat) = some false)
    (k1_BadOrder_NotEven : PySem.W.kitOne K (.ref C_BadOrder) (.ref C_NotEven) = some false)
    (eg_BadPlace : PySem.W.findIn K (.ref C_BadPlace) "__getattribute__" = some (some (.builtin "BaseException.__getattribute__")))
    (ek_BadPlace : PySem.W.findIn K (.ref C_BadPlace) "__getattr__" = some none)
    (ed_BadPlace : PySem.W.hasDictIn K C_BadPlace = true)
    (ec_BadPlace : PySem.W.findIn K (.ref C_BadPlace) "__class__" = some (some (.builtin "object.__class__")))
    (em_BadPlace : PySem.W.mroIn K C_BadPlace (.type "object") = some true)
    (eq_BadPlace : PySem.W.subIn K (.ref C_BadPlace) (.ref C_SquareError) = some true)
    (k1_BadPlace_TooGreat : PySem.W.kitOne K (.ref C_BadPlace) (.ref C_TooGreat) = some false)
    (k1_BadPlace_NotEven : PySem.W.kitOne K (.ref C_BadPlace) (.ref C_NotEven) = some false)
    (eg_BadNumber : PySem.W.findIn K (.ref C_BadNumber) "__getattribute__" = some (some (.builtin "BaseException.__getattribute__")))
    (ek_BadNumber : PySem.W.findIn K (.ref C_BadNumber) "__getattr__" = some none)
    (ed_BadNumber : PySem.W.hasDictIn K C_BadNumber = true)
    (ec_BadNumber : PySem.W.findIn K (.ref C_BadNumber) "__class__" = some (some (.builtin "object.__class__")))
    (em_BadNumber : PySem.W.mroIn K C_BadNumber (.type "object") = some true)
    (eq_BadNumber : PySem.W.subIn K (.ref C_BadNumber) (.ref C_SquareError) = some true)
    (k1_BadNumber_TooGreat : PySem.W.kitOne K (.ref C_BadNumber) (.ref C_TooGreat) = some false)
    (k1_BadNumber_NotEven : PySem.W.kitOne K (.ref C_BadNumber) (.ref C_NotEven) = some false)
    (eg_BadSquare : PySem.W.findIn K (.ref C_BadSquare) "__getattribute__" = some (some (.builtin "BaseException.__getattribute__")))
    (ek_BadSquare : PySem.W.findIn K (.ref C_BadSquare) "__getattr__" = some none)
    (ed_BadSquare : PySem.W.hasDictIn K C_BadSquare = true)
    (ec_BadSquare : PySem.W.findIn K (.ref C_BadSquare) "__class__" = some (some (.builtin "object.__class__")))
    (em_BadSquare : PySem.W.mroIn K C_BadSquare (.type "object") = some true)
    (eq_BadSquare : PySem.W.subIn K (.ref C_BadSquare) (.ref C_SquareError) = some true)
    (k1_BadSquare_TooGreat : PySem.W.kitOne K (.ref C_BadSquare) (.ref C_TooGreat) = some false)
    (k1_BadSquare_NotEven : PySem.W.kitOne K (.ref C_BadSquare) (.ref C_NotEven) = some false)
    (eg_NotEven : PySem.W.findIn K (.ref C_NotEven) "__getattribute__" = some (some (.builtin "BaseException.__getattribute__")))
    (ek_NotEven : PySem.W.findIn K (.ref C_NotEven) "__getattr__" = some none)
    (ed_NotEven : PySem.W.hasDictIn K C_NotEven = true)
    (ec_NotEven : PySem.W.findIn K (.ref C_NotEven) "__class__" = some (some (.builtin "object.__class__")))
    (em_NotEven : PySem.W.mroIn K C_NotEven (.type "object") = some true)
    (eq_NotEven : PySem.W.subIn K (.ref C_NotEven) (.ref C_SquareError) = some true)
    (k1_NotEven_TooGreat : PySem.W.kitOne K (.ref C_NotEven) (.ref C_TooGreat) = some false)
    (k1_NotEven_NotEven : PySem.W.kitOne K (.ref C_NotEven) (.ref C_NotEven) = some true)
    (eg_TooGreat : PySem.W.findIn K (.ref C_TooGreat) "__getattribute__" = some (some (.builtin "BaseException.__getattribute__")))
    (ek_TooGreat : PySem.W.findIn K (.ref C_TooGreat) "__getattr__" = some none)
    (ed_TooGreat : PySem.W.hasDictIn K C_TooGreat = true)
    (ec_TooGreat : PySem.W.findIn K (.ref C_TooGreat) "__class__" = some (some (.builtin "object.__class__")))
    (em_TooGreat : PySem.W.mroIn K C_TooGreat (.type "object") = some true)
    (eq_TooGreat : PySem.W.subIn K (.ref C_TooGreat) (.ref C_SquareError) = some true)
    (k1_TooGreat_TooGreat : PySem.W.kitOne K (.ref C_TooGreat) (.ref C_TooGreat) = some true)
    (k1_TooGreat_NotEven : PySem.W.kitOne K (.ref C_TooGreat) (.ref C_NotEven) = some false)
    (a_MOST : PySem.W.nsIn K mainGlobals "MOST" = some (some (.int 40 q_MOST)))
    (a_FOUR : PySem.W.nsIn K mainGlobals "FOUR" = some (some (.ref A_FOUR)))
    (l_FOUR : K.lookup A_FOUR = some ⟨.type "dict", none, .dict es_FOUR n_FOUR, #[]⟩)
    (y_FOUR : PySem.W.KeysLit w.params es_FOUR.toList)
    (n_FOUR_L : PySem.W.nsIn K A_FOUR "L" = some (some (.ref B_FOUR_L)))
    (o_FOUR_L : K.lookup B_FOUR_L = some ⟨.type "tuple", none, .seq #[.ref b_FOUR_L_0, .ref b_FOUR_L_1, .ref b_FOUR_L_2, .ref b_FOUR_L_3] j_FOUR_L, w_FOUR_L⟩)
    (p_FOUR_L_0 : K.lookup b_FOUR_L_0 = some ⟨.type "tuple", none, .seq #[.int 0 t_FOUR_L_0, .int 1 r_FOUR_L_0] jj_FOUR_L_0, ww_FOUR_L_0⟩)
    (p_FOUR_L_1 : K.lookup b_FOUR_L_1 = some ⟨.type "tuple", none, .seq #[.int 1 t_FOUR_L_1, .int 0 r_FOUR_L_1] jj_FOUR_L_1, ww_FOUR_L_1⟩)
    (p_FOUR_L_2 : K.lookup b_FOUR_L_2 = some ⟨.type "tuple", none, .seq #[.int 1 t_FOUR_L_2, .int 1 r_FOUR_L_2] jj_FOUR_L_2, ww_FOUR_L_2⟩)
    (p_FOUR_L_3 : K.lookup b_FOUR_L_3 = some ⟨.type "tuple", none, .seq #[.int 0 t_FOUR_L_3, .int 0 r_FOUR_L_3] jj_FOUR_L_3, ww_FOUR_L_3⟩)
    (n_FOUR_U : PySem.W.nsIn K A_FOUR "U" = some (some (.ref B_FOUR_U)))
    (o_FOUR_U : K.lookup B_FOUR_U = some ⟨.type "tuple", none, .seq #[.ref b_FOUR_U_0, .ref b_FOUR_U_1, .ref b_FOUR_U_2, .ref b_FOUR_U_3] j_FOUR_U, w_FOUR_U⟩)
    (p_FOUR_U_0 : K.lookup b_FOUR_U_0 = some ⟨.type "tuple", none, .seq #[.int 0 t_FOUR_U_0, .int 0 r_FOUR_U_0] jj_FOUR_U_0, ww_FOUR_U_0⟩)
    (p_FOUR_U_1 : K.lookup b_FOUR_U_1 = some ⟨.type "tuple", none, .seq #[.int 1 t_FOUR_U_1, .int 0 r_FOUR_U_1] jj_FOUR_U_1, ww_FOUR_U_1⟩)
    (p_FOUR_U_2 : K.lookup b_FOUR_U_2 = some ⟨.type "tuple", none, .seq #[.int 1 t_FOUR_U_2, .int 1 r_FOUR_U_2] jj_FOUR_U_2, ww_FOUR_U_2⟩)
    (p_FOUR_U_3 : K.lookup b_FOUR_U_3 = some ⟨.type "tuple", none, .seq #[.int 0 t_FOUR_U_3, .int 1 r_FOUR_U_3] jj_FOUR_U_3, ww_FOUR_U_3⟩)
    (n_FOUR_X : PySem.W.nsIn K A_FOUR "X" = some (some (.ref B_FOUR_X)))
    (o_FOUR_X : K.lookup B_FOUR_X = some ⟨.type "tuple", none, .seq #[.ref b_FOUR_X_0, .ref b_FOUR_X_1, .ref b_FOUR_X_2, .ref b_FOUR_X_3] j_FOUR_X, w_FOUR_X⟩)
    (p_FOUR_X_0 : K.lookup b_FOUR_X_0 = some ⟨.type "tuple", none, .seq #[.int 0 t_FOUR_X_0, .int 0 r_FOUR_X_0] jj_FOUR_X_0, ww_FOUR_X_0⟩)
    (p_FOUR_X_1 : K.lookup b_FOUR_X_1 = some ⟨.type "tuple", none, .seq #[.int 1 t_FOUR_X_1, .int 1 r_FOUR_X_1] jj_FOUR_X_1, ww_FOUR_X_1⟩)
    (p_FOUR_X_2 : K.lookup b_FOUR_X_2 = some ⟨.type "tuple", none, .seq #[.int 1 t_FOUR_X_2, .int 0 r_FOUR_X_2] jj_FOUR_X_2, ww_FOUR_X_2⟩)
    (p_FOUR_X_3 : K.lookup b_FOUR_X_3 = some ⟨.type "tuple", none, .seq #[.int 0 t_FOUR_X_3, .int 1 r_FOUR_X_3] jj_FOUR_X_3, ww_FOUR_X_3⟩)
    (neP_P : P__law_made_promises ≠ P__law_others_promises)
    (z_isinstance : PySem.W.nsIn K mainGlobals "isinstance" = some none)
    (z_int : PySem.W.nsIn K mainGlobals "int" = some none)
    (z_bool : PySem.W.nsIn K mainGlobals "bool" = some none)
    (z_list : PySem.W.nsIn K mainGlobals "list" = some none)
    (z_len : PySem.W.nsIn K mainGlobals "len" = some none)
    (z_all : PySem.W.nsIn K mainGlobals "all" = some none)
    (z_range : PySem.W.nsIn K mainGlobals "range" = some none)
    (z_sum : PySem.W.nsIn K mainGlobals "sum" = some none)
    (z_sorted : PySem.W.nsIn K mainGlobals "sorted" = some none)
    (z_zip : PySem.W.nsIn K mainGlobals "zip" = some none)
    (z_divmod : PySem.W.nsIn K mainGlobals "divmod" = some none)
    (z_tuple : PySem.W.nsIn K mainGlobals "tuple" = some none)
    (z_str : PySem.W.nsIn K mainGlobals "str" = some none)
    (z_abs : PySem.W.nsIn K mainGlobals "abs" = some none)
    (z_enumerate : PySem.W.nsIn K mainGlobals "enumerate" = some none)
    : LamX.LawAtS l w K (L2N.CX l.prog w) 9 63 "_law_script" mg fa h := by
  have e := hfa.symm.trans (PySem.W.mg_of X G a_law)
  cases e
  have F_is_number := fun_mk (st := s_is_number) l_is_number c_is_number k_is_number
  have b_is_number := F_is_number.binds (ps := ["thing"]) fun _ _ _ _ _ _ us hl => match us, hl with | [_], _ => rfl
  have F_asked_square := fun_mk (st := s_asked_square) l_asked_square c_asked_square k_asked_square
  have b_asked_square := F_asked_square.binds (ps := ["square"]) fun _ _ _ _ _ _ us hl => match us, hl with | [_], _ => rfl
  have F_lines := fun_mk (st := s_lines) l_lines c_lines k_lines
  have b_lines := F_lines.binds (ps := ["order"]) fun _ _ _ _ _ _ us hl => match us, hl with | [_], _ => rfl
  have F_sum_along := fun_mk (st := s_sum_along) l_sum_along c_sum_along k_sum_along
  have b_sum_along := F_sum_along.binds (ps := ["square", "line"]) fun _ _ _ _ _ _ us hl => match us, hl with | [_, _], _ => rfl
  have F_whole := fun_mk (st := s_whole) l_whole c_whole k_whole
  have b_whole := F_whole.binds (ps := ["square"]) fun _ _ _ _ _ _ us hl => match us, hl with | [_], _ => rfl
  have F_turned := fun_mk (st := s_turned) l_turned c_turned k_turned
  have b_turned := F_turned.binds (ps := ["square", "way"]) fun _ _ _ _ _ _ us hl => match us, hl with | [_, _], _ => rfl
  have F_other_way := fun_mk (st := s_other_way) l_other_way c_other_way k_other_way
  have b_other_way := F_other_way.binds (ps := ["square"]) fun _ _ _ _ _ _ us hl => match us, hl with | [_], _ => rfl
  have F_put_together := fun_mk (st := s_put_together) l_put_together c_put_together k_put_together
  have b_put_together := F_put_together.binds (ps := ["one", "other", "times"]) fun _ _ _ _ _ _ us hl => match us, hl with | [_, _, _], _ => rfl
  have F_product := fun_mk (st := s_product) l_product c_product k_product
  have b_product := F_product.binds (ps := ["one", "other"]) fun _ _ _ _ _ _ us hl => match us, hl with | [_, _], _ => rfl
  have F_Even_shows := fun_mk (st := s_Even_shows) l_Even_shows c_Even_shows k_Even_shows
  have b_Even_shows := F_Even_shows.binds (ps := ["self", "square"]) fun _ _ _ _ _ _ us hl => match us, hl with | [_, _], _ => rfl
  have F_Unlike_shows := fun_mk (st := s_Unlike_shows) l_Unlike_shows c_Unlike_shows k_Unlike_shows
  have b_Unlike_shows := F_Unlike_shows.binds (ps := ["self", "square"]) fun _ _ _ _ _ _ us hl => match us, hl with | [_, _], _ => rfl
  have F_told := fun_mk (st := s_told) l_told c_told k_told
  have b_told := F_told.binds (ps := ["square"]) fun _ _ _ _ _ _ us hl => match us, hl with | [_], _ => rfl
  have F_three := fun_mk (st := s_three) l_three c_three k_three
  have b_three := F_three.binds (ps := ["middle", "one", "other"]) fun _ _ _ _ _ _ us hl => match us, hl with | [_, _, _], _ => rfl
  have F_parts := fun_mk (st := s_parts) l_parts c_parts k_parts
  have b_parts := F_parts.binds (ps := ["square"]) fun _ _ _ _ _ _ us hl => match us, hl with | [_], _ => rfl
  have F_asked_order := fun_mk (st := s_asked_order) l_asked_order c_asked_order k_asked_order
  have b_asked_order := F_asked_order.binds (ps := ["order"]) fun _ _ _ _ _ _ us hl => match us, hl with | [_], _ => rfl
  have F_odd_number := fun_mk (st := s_odd_number) l_odd_number c_odd_number k_odd_number
  have b_odd_number := F_odd_number.binds (ps := ["order", "row", "column"]) fun _ _ _ _ _ _ us hl => match us, hl with | [_, _, _], _ => rfl
  have F_odd_place := fun_mk (st := s_odd_place) l_odd_place c_odd_place k_odd_place
  have b_odd_place := F_odd_place.binds (ps := ["order", "number"]) fun _ _ _ _ _ _ us hl => match us, hl with | [_, _], _ => rfl
  have F_letter := fun_mk (st := s_letter) l_letter c_letter k_letter
  have b_letter := F_letter.binds (ps := ["order", "row", "column"]) fun _ _ _ _ _ _ us hl => match us, hl with | [_, _, _], _ => rfl
  have F_is_back := fun_mk (st := s_is_back) l_is_back c_is_back k_is_back
  have b_is_back := F_is_back.binds (ps := ["row", "column"]) fun _ _ _ _ _ _ us hl => match us, hl with | [_, _], _ => rfl
  have F_number_of := fun_mk (st := s_number_of) l_number_of c_number_of k_number_of
  have b_number_of := F_number_of.binds (ps := ["order", "row", "column"]) fun _ _ _ _ _ _ us hl => match us, hl with | [_, _, _], _ => rfl
  have F_number_at := fun_mk (st := s_number_at) l_number_at c_number_at k_number_at
  have b_number_at := F_number_at.binds (ps := ["order", "row", "column"]) fun _ _ _ _ _ _ us hl => match us, hl with | [_, _, _], _ => rfl
  have F_place_of := fun_mk (st := s_place_of) l_place_of c_place_of k_place_of
  have b_place_of := F_place_of.binds (ps := ["order", "number"]) fun _ _ _ _ _ _ us hl => match us, hl with | [_, _], _ => rfl
  have F_made := fun_mk (st := s_made) l_made c_made k_made
  have b_made := F_made.binds (ps := ["order"]) fun _ _ _ _ _ _ us hl => match us, hl with | [_], _ => rfl
  have F_total := fun_mk (st := s_total) l_total c_total k_total
  have b_total := F_total.binds (ps := ["order"]) fun _ _ _ _ _ _ us hl => match us, hl with | [_], _ => rfl
  have F__law_number := fun_mk (st := s__law_number) l__law_number c__law_number k__law_number
  have b__law_number := F__law_number.binds (ps := ["_law_cell", "_law_at", "_law_mixed"]) fun _ _ _ _ _ _ us hl => match us, hl with | [_, _, _], _ => rfl
  have F__law_plain := fun_mk (st := s__law_plain) l__law_plain c__law_plain k__law_plain
  have b__law_plain := F__law_plain.binds (ps := ["_law_thing"]) fun _ _ _ _ _ _ us hl => match us, hl with | [_], _ => rfl
  have F__law_truths := fun_mk (st := s__law_truths) l__law_truths c__law_truths k__law_truths
  have b__law_truths := F__law_truths.binds (ps := ["_law_things"]) fun _ _ _ _ _ _ us hl => match us, hl with | [_], _ => rfl
  have F__law_square_right := fun_mk (st := s__law_square_right) l__law_square_right c__law_square_right k__law_square_right
  have b__law_square_right := F__law_square_right.binds (ps := ["_law_square"]) fun _ _ _ _ _ _ us hl => match us, hl with | [_], _ => rfl
  have F__law_no_of := fun_mk (st := s__law_no_of) l__law_no_of c__law_no_of k__law_no_of
  have b__law_no_of := F__law_no_of.binds (ps := ["_law_ask"]) fun _ _ _ _ _ _ us hl => match us, hl with | [_], _ => rfl
  have F__law_made_promises := fun_mk (st := s__law_made_promises) l__law_made_promises c__law_made_promises k__law_made_promises
  have b__law_made_promises := F__law_made_promises.binds (ps := []) fun _ _ _ _ _ _ us hl => match us, hl with | [], _ => rfl
  have F__law_promises_right := fun_mk (st := s__law_promises_right) l__law_promises_right c__law_promises_right k__law_promises_right
  have b__law_promises_right := F__law_promises_right.binds (ps := []) fun _ _ _ _ _ _ us hl => match us, hl with | [], _ => rfl
  have F__law_others_promises := fun_mk (st := s__law_others_promises) l__law_others_promises c__law_others_promises k__law_others_promises
  have b__law_others_promises := F__law_others_promises.binds (ps := ["_law_two"]) fun _ _ _ _ _ _ us hl => match us, hl with | [_], _ => rfl
  have F_law := fun_mk (st := s_law) l_law c_law k_law
  have b_law := F_law.binds (ps := ["_law_script"]) fun _ _ _ _ _ _ us hl => match us, hl with | [_], _ => rfl
  have Fi_Even := fun_mk (st := si_Even) li_Even ci_Even ki_Even
  have bi_Even := Fi_Even.binds (ps := ["self", "total"]) fun _ _ _ _ _ _ us hl => match us, hl with | [_, _], _ => rfl
  have Fi_Unlike := fun_mk (st := si_Unlike) li_Unlike ci_Unlike ki_Unlike
  have bi_Unlike := Fi_Unlike.binds (ps := ["self", "one", "other"]) fun _ _ _ _ _ _ us hl => match us, hl with | [_, _, _], _ => rfl
  let Z : Tp ⟨K, mg, C_Even, C_Unlike, none⟩ w := {
    a_is_number := _, d_is_number := _, F_is_number := F_is_number, b_is_number := b_is_number, g_is_number := PySem.W.mg_of X G a_is_number
    a_asked_square := _, d_asked_square := _, F_asked_square := F_asked_square, b_asked_square := b_asked_square, g_asked_square := PySem.W.mg_of X G a_asked_square
    a_lines := _, d_lines := _, F_lines := F_lines, b_lines := b_lines, g_lines := PySem.W.mg_of X G a_lines
    a_sum_along := _, d_sum_along := _, F_sum_along := F_sum_along, b_sum_along := b_sum_along, g_sum_along := PySem.W.mg_of X G a_sum_along
    a_whole := _, d_whole := _, F_whole := F_whole, b_whole := b_whole, g_whole := PySem.W.mg_of X G a_whole
    a_turned := _, d_turned := _, F_turned := F_turned, b_turned := b_turned, g_turned := PySem.W.mg_of X G a_turned
    a_other_way := _, d_other_way := _, F_other_way := F_other_way, b_other_way := b_other_way, g_other_way := PySem.W.mg_of X G a_other_way
    a_put_together := _, d_put_together := _, F_put_together := F_put_together, b_put_together := b_put_together, g_put_together := PySem.W.mg_of X G a_put_together
    a_product := _, d_product := _, F_product := F_product, b_product := b_product, g_product := PySem.W.mg_of X G a_product
    a_Even_shows := _, d_Even_shows := _, F_Even_shows := F_Even_shows, b_Even_shows := b_Even_shows, M_Even_shows := ⟨a_Even_shows, i_Even_shows, k_Even_shows⟩
    a_Unlike_shows := _, d_Unlike_shows := _, F_Unlike_shows := F_Unlike_shows, b_Unlike_shows := b_Unlike_shows, M_Unlike_shows := ⟨a_Unlike_shows, i_Unlike_shows, k_Unlike_shows⟩
    a_told := _, d_told := _, F_told := F_told, b_told := b_told, g_told := PySem.W.mg_of X G a_told
    a_three := _, d_three := _, F_three := F_three, b_three := b_three, g_three := PySem.W.mg_of X G a_three
    a_parts := _, d_parts := _, F_parts := F_parts, b_parts := b_parts, g_parts := PySem.W.mg_of X G a_parts
    a_asked_order := _, d_asked_order := _, F_asked_order := F_asked_order, b_asked_order := b_asked_order, g_asked_order := PySem.W.mg_of X G a_asked_order
    a_odd_number := _, d_odd_number := _, F_odd_number := F_odd_number, b_odd_number := b_odd_number, g_odd_number := PySem.W.mg_of X G a_odd_number
    a_odd_place := _, d_odd_place := _, F_odd_place := F_odd_place, b_odd_place := b_odd_place, g_odd_place := PySem.W.mg_of X G a_odd_place
    a_letter := _, d_letter := _, F_letter := F_letter, b_letter := b_letter, g_letter := PySem.W.mg_of X G a_letter
    a_is_back := _, d_is_back := _, F_is_back := F_is_back, b_is_back := b_is_back, g_is_back := PySem.W.mg_of X G a_is_back
    a_number_of := _, d_number_of := _, F_number_of := F_number_of, b_number_of := b_number_of, g_number_of := PySem.W.mg_of X G a_number_of
    a_number_at := _, d_number_at := _, F_number_at := F_number_at, b_number_at := b_number_at, g_number_at := PySem.W.mg_of X G a_number_at
    a_place_of := _, d_place_of := _, F_place_of := F_place_of, b_place_of := b_place_of, g_place_of := PySem.W.mg_of X G a_place_of
    a_made := _, d_made := _, F_made := F_made, b_made := b_made, g_made := PySem.W.mg_of X G a_made
    a_total := _, d_total := _, F_total := F_total, b_total := b_total, g_total := PySem.W.mg_of X G a_total
    a__law_number := _, d__law_number := _, F__law_number := F__law_number, b__law_number := b__law_number, g__law_number := PySem.W.mg_of X G a__law_number
    a__law_plain := _, d__law_plain := _, F__law_plain := F__law_plain, b__law_plain := b__law_plain, g__law_plain := PySem.W.mg_of X G a__law_plain
    a__law_truths := _, d__law_truths := _, F__law_truths := F__law_truths, b__law_truths := b__law_truths, g__law_truths := PySem.W.mg_of X G a__law_truths
    a__law_square_right := _, d__law_square_right := _, F__law_square_right := F__law_square_right, b__law_square_right := b__law_square_right, g__law_square_right := PySem.W.mg_of X G a__law_square_right
    a__law_no_of := _, d__law_no_of := _, F__law_no_of := F__law_no_of, b__law_no_of := b__law_no_of, g__law_no_of := PySem.W.mg_of X G a__law_no_of
    a__law_made_promises := _, d__law_made_promises := _, F__law_made_promises := F__law_made_promises, b__law_made_promises := b__law_made_promises, g__law_made_promises := PySem.W.mg_of X G a__law_made_promises
    a__law_promises_right := _, d__law_promises_right := _, F__law_promises_right := F__law_promises_right, b__law_promises_right := b__law_promises_right, g__law_promises_right := PySem.W.mg_of X G a__law_promises_right
    a__law_others_promises := _, d__law_others_promises := _, F__law_others_promises := F__law_others_promises, b__law_others_promises := b__law_others_promises, g__law_others_promises := PySem.W.mg_of X G a__law_others_promises
    a_law := _, d_law := _, F_law := F_law, b_law := b_law, g_law := PySem.W.mg_of X G a_law
    ai_Even := _, di_Even := _, Fi_Even := Fi_Even, bi_Even := bi_Even, K_Even := ⟨mk_Even, ai_Even, ii_Even, kc_Even⟩, cl_Even := ⟨pg_Even, hd_Even, po_Even, sa_Even⟩, i_Even := ⟨⟨pg_Even, hd_Even, po_Even, sa_Even⟩, cc_Even, og, ot, mr_Even⟩, g_Even := PySem.W.mg_of X G a_Even
    n_Even_total := n_Even_total
    ai_Unlike := _, di_Unlike := _, Fi_Unlike := Fi_Unlike, bi_Unlike := bi_Unlike, K_Unlike := ⟨mk_Unlike, ai_Unlike, ii_Unlike, kc_Unlike⟩, cl_Unlike := ⟨pg_Unlike, hd_Unlike, po_Unlike, sa_Unlike⟩, i_Unlike := ⟨⟨pg_Unlike, hd_Unlike, po_Unlike, sa_Unlike⟩, cc_Unlike, og, ot, mr_Unlike⟩, g_Unlike := PySem.W.mg_of X G a_Unlike
    n_Unlike_one := n_Unlike_one
    n_Unlike_other := n_Unlike_other
    k1_Even := k1_Even, k2_Even := k2_Even
    k1_Unlike := k1_Unlike, k2_Unlike := k2_Unlike
    c_SquareError := _, g_SquareError := PySem.W.mg_of X G a_SquareError, x_SquareError := x_SquareError, k_SquareError := k_SquareError, s_SquareError := s_SquareError, t_SquareError := t_SquareError
    c_BadOrder := _, g_BadOrder := PySem.W.mg_of X G a_BadOrder, x_BadOrder := x_BadOrder, k_BadOrder := k_BadOrder, s_BadOrder := s_BadOrder, t_BadOrder := t_BadOrder
    c_BadPlace := _, g_BadPlace := PySem.W.mg_of X G a_BadPlace, x_BadPlace := x_BadPlace, k_BadPlace := k_BadPlace, s_BadPlace := s_BadPlace, t_BadPlace := t_BadPlace
    c_BadNumber := _, g_BadNumber := PySem.W.mg_of X G a_BadNumber, x_BadNumber := x_BadNumber, k_BadNumber := k_BadNumber, s_BadNumber := s_BadNumber, t_BadNumber := t_BadNumber
    c_BadSquare := _, g_BadSquare := PySem.W.mg_of X G a_BadSquare, x_BadSquare := x_BadSquare, k_BadSquare := k_BadSquare, s_BadSquare := s_BadSquare, t_BadSquare := t_BadSquare
    c_NotEven := _, g_NotEven := PySem.W.mg_of X G a_NotEven, x_NotEven := x_NotEven, k_NotEven := k_NotEven, s_NotEven := s_NotEven, t_NotEven := t_NotEven
    c_TooGreat := _, g_TooGreat := PySem.W.mg_of X G a_TooGreat, x_TooGreat := x_TooGreat, k_TooGreat := k_TooGreat, s_TooGreat := s_TooGreat, t_TooGreat := t_TooGreat
    cc__law_made_promises := _, P__law_made_promises := P__law_made_promises, FC__law_made_promises := ⟨_, _, _, _, _, _, _, _, rfl, l__law_made_promises, c__law_made_promises⟩
    cc__law_others_promises := _, P__law_others_promises := P__law_others_promises, FC__law_others_promises := ⟨_, _, _, _, _, _, _, _, rfl, l__law_others_promises, c__law_others_promises⟩
    ne_P := neP_P
    ea := rfl
    es := fun c hc C hm => by
      have hc := List.elem_iff.mp (show List.elem c _ = true from hc)
      simp only [List.mem_cons, List.not_mem_nil, or_false] at hc
      rcases hc with rfl | rfl | rfl | rfl | rfl | rfl
      · have e := hm.symm.trans (PySem.W.mg_of X G a_BadOrder)
        cases e
        exact ⟨PySem.W.exm_ref s_SquareError ed_SquareError t_SquareError eq_BadOrder, ⟨eg_BadOrder, ek_BadOrder, s_BadOrder, ed_BadOrder, ec_BadOrder, og, ot, em_BadOrder⟩, kit_eqb k1_BadOrder_TooGreat (by decide +kernel), kit_eqb k1_BadOrder_NotEven (by decide +kernel), trivial⟩
      · have e := hm.symm.trans (PySem.W.mg_of X G a_BadPlace)
        cases e
        exact ⟨PySem.W.exm_ref s_SquareError ed_SquareError t_SquareError eq_BadPlace, ⟨eg_BadPlace, ek_BadPlace, s_BadPlace, ed_BadPlace, ec_BadPlace, og, ot, em_BadPlace⟩, kit_eqb k1_BadPlace_TooGreat (by decide +kernel), kit_eqb k1_BadPlace_NotEven (by decide +kernel), trivial⟩
      · have e := hm.symm.trans (PySem.W.mg_of X G a_BadNumber)
        cases e
        exact ⟨PySem.W.exm_ref s_SquareError ed_SquareError t_SquareError eq_BadNumber, ⟨eg_BadNumber, ek_BadNumber, s_BadNumber, ed_BadNumber, ec_BadNumber, og, ot, em_BadNumber⟩, kit_eqb k1_BadNumber_TooGreat (by decide +kernel), kit_eqb k1_BadNumber_NotEven (by decide +kernel), trivial⟩
      · have e := hm.symm.trans (PySem.W.mg_of X G a_BadSquare)
        cases e
        exact ⟨PySem.W.exm_ref s_SquareError ed_SquareError t_SquareError eq_BadSquare, ⟨eg_BadSquare, ek_BadSquare, s_BadSquare, ed_BadSquare, ec_BadSquare, og, ot, em_BadSquare⟩, kit_eqb k1_BadSquare_TooGreat (by decide +kernel), kit_eqb k1_BadSquare_NotEven (by decide +kernel), trivial⟩
      · have e := hm.symm.trans (PySem.W.mg_of X G a_NotEven)
        cases e
        exact ⟨PySem.W.exm_ref s_SquareError ed_SquareError t_SquareError eq_NotEven, ⟨eg_NotEven, ek_NotEven, s_NotEven, ed_NotEven, ec_NotEven, og, ot, em_NotEven⟩, kit_eqb k1_NotEven_TooGreat (by decide +kernel), kit_eqb k1_NotEven_NotEven (by decide +kernel), trivial⟩
      · have e := hm.symm.trans (PySem.W.mg_of X G a_TooGreat)
        cases e
        exact ⟨PySem.W.exm_ref s_SquareError ed_SquareError t_SquareError eq_TooGreat, ⟨eg_TooGreat, ek_TooGreat, s_TooGreat, ed_TooGreat, ec_TooGreat, og, ot, em_TooGreat⟩, kit_eqb k1_TooGreat_TooGreat (by decide +kernel), kit_eqb k1_TooGreat_NotEven (by decide +kernel), trivial⟩
    q_MOST := _, g_MOST := PySem.W.mg_of X G a_MOST
    a_FOUR := _, g_FOUR := PySem.W.mg_of X G a_FOUR
    d_FOUR := fun z d hz => by
      unfold tab_FOUR at hz
      by_cases e_L : z = "L"
      · rw [if_pos e_L] at hz
        cases hz
        subst e_L
        exact ⟨.ref B_FOUR_L, ⟨_, _, _, l_FOUR, y_FOUR, n_FOUR_L, rfl⟩, fun H => kfour o_FOUR_L (kpair (T := ⟨K, mg, C_Even, C_Unlike, none⟩) p_FOUR_L_0 H) (kpair (T := ⟨K, mg, C_Even, C_Unlike, none⟩) p_FOUR_L_1 H) (kpair (T := ⟨K, mg, C_Even, C_Unlike, none⟩) p_FOUR_L_2 H) (kpair (T := ⟨K, mg, C_Even, C_Unlike, none⟩) p_FOUR_L_3 H)⟩
      rw [if_neg e_L] at hz
      by_cases e_U : z = "U"
      · rw [if_pos e_U] at hz
        cases hz
        subst e_U
        exact ⟨.ref B_FOUR_U, ⟨_, _, _, l_FOUR, y_FOUR, n_FOUR_U, rfl⟩, fun H => kfour o_FOUR_U (kpair (T := ⟨K, mg, C_Even, C_Unlike, none⟩) p_FOUR_U_0 H) (kpair (T := ⟨K, mg, C_Even, C_Unlike, none⟩) p_FOUR_U_1 H) (kpair (T := ⟨K, mg, C_Even, C_Unlike, none⟩) p_FOUR_U_2 H) (kpair (T := ⟨K, mg, C_Even, C_Unlike, none⟩) p_FOUR_U_3 H)⟩
      rw [if_neg e_U] at hz
      by_cases e_X : z = "X"
      · rw [if_pos e_X] at hz
        cases hz
        subst e_X
        exact ⟨.ref B_FOUR_X, ⟨_, _, _, l_FOUR, y_FOUR, n_FOUR_X, rfl⟩, fun H => kfour o_FOUR_X (kpair (T := ⟨K, mg, C_Even, C_Unlike, none⟩) p_FOUR_X_0 H) (kpair (T := ⟨K, mg, C_Even, C_Unlike, none⟩) p_FOUR_X_1 H) (kpair (T := ⟨K, mg, C_Even, C_Unlike, none⟩) p_FOUR_X_2 H) (kpair (T := ⟨K, mg, C_Even, C_Unlike, none⟩) p_FOUR_X_3 H)⟩
      rw [if_neg e_X] at hz
      cases hz
    m_isinstance := PySem.W.mg_none_of X G z_isinstance
    m_int := PySem.W.mg_none_of X G z_int
    m_bool := PySem.W.mg_none_of X G z_bool
    m_list := PySem.W.mg_none_of X G z_list
    m_len := PySem.W.mg_none_of X G z_len
    m_all := PySem.W.mg_none_of X G z_all
    m_range := PySem.W.mg_none_of X G z_range
    m_sum := PySem.W.mg_none_of X G z_sum
    m_sorted := PySem.W.mg_none_of X G z_sorted
    m_zip := PySem.W.mg_none_of X G z_zip
    m_divmod := PySem.W.mg_none_of X G z_divmod
    m_tuple := PySem.W.mg_none_of X G z_tuple
    m_str := PySem.W.mg_none_of X G z_str
    m_abs := PySem.W.mg_none_of X G z_abs
    m_enumerate := PySem.W.mg_none_of X G z_enumerate
  }
  have hd1 : PySem.W.CodeHd h cc__law_made_promises P__law_made_promises := ⟨_, _, _, _, _, _, _, _, _, X _ _ lc__law_made_promises, rfl, rfl, v11__law_made_promises, v1d__law_made_promises, v18__law_made_promises, v07__law_made_promises, v09__law_made_promises, v10__law_made_promises, ncP__law_made_promises⟩
  have hd2 : PySem.W.CodeHd h cc__law_others_promises P__law_others_promises := ⟨_, _, _, _, _, _, _, _, _, X _ _ lc__law_others_promises, rfl, rfl, v11__law_others_promises, v1d__law_others_promises, v18__law_others_promises, v07__law_others_promises, v09__law_others_promises, v10__law_others_promises, ncP__law_others_promises⟩
  have ht1 := O1 _ (PySem.W.mg_of X G a__law_made_promises) cc__law_made_promises P__law_made_promises _ _ _ _ _ _ l__law_made_promises rfl rfl lc__law_made_promises v11__law_made_promises
  have ht2 := O2 _ (PySem.W.mg_of X G a__law_others_promises) cc__law_others_promises P__law_others_promises _ _ _ _ _ _ l__law_others_promises rfl rfl lc__law_others_promises v11__law_others_promises
  refine ⟨Z.d_law, [(cc__law_made_promises, P__law_made_promises), (cc__law_others_promises, P__law_others_promises)], spL ⟨K, mg, C_Even, C_Unlike, none⟩ (Tbs Z), fun p hp => ?_, fun p hp => ?_, fun p hp => ?_, fun s v => .of_eq rfl, fun H a ns h1 h2 h3 h4 => ?_, fun base hk hn hB => ?_⟩
  · simp only [List.mem_cons, List.not_mem_nil, or_false] at hp
    rcases hp with rfl | rfl
    · exact ht1
    · exact ht2
  · simp only [List.mem_cons, List.not_mem_nil, or_false] at hp
    rcases hp with rfl | rfl
    · exact noP__law_made_promises
    · exact noP__law_others_promises
  · simp only [List.mem_cons, List.not_mem_nil, or_false] at hp
    rcases hp with rfl | rfl
    · exact hd1
    · exact hd2
  · exact spL_start h1 h2 (h3 _ List.mem_cons_self) (h3 _ (List.mem_cons_of_mem _ List.mem_cons_self)) h4
  · exact ok_law Z (hB _ List.mem_cons_self) (hB _ (List.mem_cons_of_mem _ List.mem_cons_self)) LT
end K08

open PySem PySem.W PyProof.Rows
set_option maxRecDepth 100000 in
set_option maxHeartbeats 0 in
theorem PySem.Challenge.cw_evensquare_k08_whole_numbers_holds : PySem.Challenge.rw_evensquare_k08_whole_numbers.Holds := by
  w_on; o_law; k_head; (case hw => w_witness2)
  k_fill
  refine G6.walk_endT (l := PySem.Challenge.rw_evensquare_k08_whole_numbers) (k := 9) (x := "_law_script") (n1 := "_law_made_promises") (n2 := "_law_others_promises") rfl rfl ⟨rfl, by decide, by decide⟩ (by decide +kernel) (by decide +kernel) (fun w h Y => PySem.W.km_in_of Y) ?F
  case F =>
    intro w mg fa h KX G hmg O1 O2
    refine' K08.all_mk KX G hmg O1 O2 K08.law_true ?a_Even ?a_Unlike ?ai_Even ?ii_Even ?li_Even ?ci_Even ?ki_Even ?pg_Even ?hd_Even ?po_Even ?sa_Even ?mk_Even ?kc_Even ?cc_Even ?mr_Even ?n_Even_total ?ai_Unlike ?ii_Unlike ?li_Unlike ?ci_Unlike ?ki_Unlike ?pg_Unlike ?hd_Unlike ?po_Unlike ?sa_Unlike ?mk_Unlike ?kc_Unlike ?cc_Unlike ?mr_Unlike ?n_Unlike_one ?n_Unlike_other ?og ?ot ?k1_Even ?k2_Even ?k1_Unlike ?k2_Unlike ?a_is_number ?l_is_number ?c_is_number ?k_is_number ?a_asked_square ?l_asked_square ?c_asked_square ?k_asked_square ?a_lines ?l_lines ?c_lines ?k_lines ?a_sum_along ?l_sum_along ?c_sum_along ?k_sum_along ?a_whole ?l_whole ?c_whole ?k_whole ?a_turned ?l_turned ?c_turned ?k_turned ?a_other_way ?l_other_way ?c_other_way ?k_other_way ?a_put_together ?l_put_together ?c_put_together ?k_put_together ?a_product ?l_product ?c_product ?k_product ?a_Even_shows ?i_Even_shows ?l_Even_shows ?c_Even_shows ?k_Even_shows ?a_Unlike_shows ?i_Unlike_shows ?l_Unlike_shows ?c_Unlike_shows ?k_Unlike_shows ?a_told ?l_told ?c_told ?k_told ?a_three ?l_three ?c_three ?k_three ?a_parts ?l_parts ?c_parts ?k_parts ?a_asked_order ?l_asked_order ?c_asked_order ?k_asked_order ?a_odd_number ?l_odd_number ?c_odd_number ?k_odd_number ?a_odd_place ?l_odd_place ?c_odd_place ?k_odd_place ?a_letter ?l_letter ?c_letter ?k_letter ?a_is_back ?l_is_back ?c_is_back ?k_is_back ?a_number_of ?l_number_of ?c_number_of ?k_number_of ?a_number_at ?l_number_at ?c_number_at ?k_number_at ?a_place_of ?l_place_of ?c_place_of ?k_place_of ?a_made ?l_made ?c_made ?k_made ?a_total ?l_total ?c_total ?k_total ?a__law_number ?l__law_number ?c__law_number ?k__law_number ?a__law_plain ?l__law_plain ?c__law_plain ?k__law_plain ?a__law_truths ?l__law_truths ?c__law_truths ?k__law_truths ?a__law_square_right ?l__law_square_right ?c__law_square_right ?k__law_square_right ?a__law_no_of ?l__law_no_of ?c__law_no_of ?k__law_no_of ?a__law_made_promises ?l__law_made_promises ?c__law_made_promises ?k__law_made_promises ?lc__law_made_promises ?v11__law_made_promises ?v1d__law_made_promises ?v18__law_made_promises ?v07__law_made_promises ?v09__law_made_promises ?v10__law_made_promises ?ncP__law_made_promises ?noP__law_made_promises ?a__law_promises_right ?l__law_promises_right ?c__law_promises_right ?k__law_promises_right ?a__law_others_promises ?l__law_others_promises ?c__law_others_promises ?k__law_others_promises ?lc__law_others_promises ?v11__law_others_promises ?v1d__law_others_promises ?v18__law_others_promises ?v07__law_others_promises ?v09__law_others_promises ?v10__law_others_promises ?ncP__law_others_promises ?noP__law_others_promises ?a_law ?l_law ?c_law ?k_law ?a_SquareError ?x_SquareError ?k_SquareError ?s_SquareError ?t_SquareError ?a_BadOrder ?x_BadOrder ?k_BadOrder ?s_BadOrder ?t_BadOrder ?a_BadPlace ?x_BadPlace ?k_BadPlace ?s_BadPlace ?t_BadPlace ?a_BadNumber ?x_BadNumber ?k_BadNumber ?s_BadNumber ?t_BadNumber ?a_BadSquare ?x_BadSquare ?k_BadSquare ?s_BadSquare ?t_BadSquare ?a_NotEven ?x_NotEven ?k_NotEven ?s_NotEven ?t_NotEven ?a_TooGreat ?x_TooGreat ?k_TooGreat ?s_TooGreat ?t_TooGreat ?ed_SquareError ?eg_BadOrder ?ek_BadOrder ?ed_BadOrder ?ec_BadOrder ?em_BadOrder ?eq_BadOrder ?k1_BadOrder_TooGreat ?k1_BadOrder_NotEven ?eg_BadPlace ?ek_BadPlace ?ed_BadPlace ?ec_BadPlace ?em_BadPlace ?eq_BadPlace ?k1_BadPlace_TooGreat ?k1_BadPlace_NotEven ?eg_BadNumber ?ek_BadNumber ?ed_BadNumber ?ec_BadNumber ?em_BadNumber ?eq_BadNumber ?k1_BadNumber_TooGreat ?k1_BadNumber_NotEven ?eg_BadSquare ?ek_BadSquare ?ed_BadSquare ?ec_BadSquare ?em_BadSquare ?eq_BadSquare ?k1_BadSquare_TooGreat ?k1_BadSquare_NotEven ?eg_NotEven ?ek_NotEven ?ed_NotEven ?ec_NotEven ?em_NotEven ?eq_NotEven ?k1_NotEven_TooGreat ?k1_NotEven_NotEven ?eg_TooGreat ?ek_TooGreat ?ed_TooGreat ?ec_TooGreat ?em_TooGreat ?eq_TooGreat ?k1_TooGreat_TooGreat ?k1_TooGreat_NotEven ?a_MOST ?a_FOUR ?l_FOUR ?y_FOUR ?n_FOUR_L ?o_FOUR_L ?p_FOUR_L_0 ?p_FOUR_L_1 ?p_FOUR_L_2 ?p_FOUR_L_3 ?n_FOUR_U ?o_FOUR_U ?p_FOUR_U_0 ?p_FOUR_U_1 ?p_FOUR_U_2 ?p_FOUR_U_3 ?n_FOUR_X ?o_FOUR_X ?p_FOUR_X_0 ?p_FOUR_X_1 ?p_FOUR_X_2 ?p_FOUR_X_3 ?neP_P ?z_isinstance ?z_int ?z_bool ?z_list ?z_len ?z_all ?z_range ?z_sum ?z_sorted ?z_zip ?z_divmod ?z_tuple ?z_str ?z_abs ?z_enumerate
    (case a_Even => k_is)
    (case a_Unlike => k_is)
    (case ai_Even => k_is)
    (case ii_Even => k_is)
    (case li_Even => k_is)
    (case ci_Even => k_is)
    (case ki_Even => k_is)
    (case pg_Even => k_is)
    (case hd_Even => k_is)
    (case po_Even => k_is)
    (case sa_Even => k_is)
    (case mk_Even => k_is)
    (case kc_Even => k_is)
    (case cc_Even => k_is)
    (case mr_Even => k_is)
    (case n_Even_total => k_is)
    (case ai_Unlike => k_is)
    (case ii_Unlike => k_is)
    (case li_Unlike => k_is)
    (case ci_Unlike => k_is)
    (case ki_Unlike => k_is)
    (case pg_Unlike => k_is)
    (case hd_Unlike => k_is)
    (case po_Unlike => k_is)
    (case sa_Unlike => k_is)
    (case mk_Unlike => k_is)
    (case kc_Unlike => k_is)
    (case cc_Unlike => k_is)
    (case mr_Unlike => k_is)
    (case n_Unlike_one => k_is)
    (case n_Unlike_other => k_is)
    (case og => k_is)
    (case ot => k_is)
    (case k1_Even => kit_is)
    (case k2_Even => kit_is)
    (case k1_Unlike => kit_is)
    (case k2_Unlike => kit_is)
    (case a_is_number => k_is)
    (case l_is_number => k_is)
    (case c_is_number => k_is)
    (case k_is_number => k_is)
    (case a_asked_square => k_is)
    (case l_asked_square => k_is)
    (case c_asked_square => k_is)
    (case k_asked_square => k_is)
    (case a_lines => k_is)
    (case l_lines => k_is)
    (case c_lines => k_is)
    (case k_lines => k_is)
    (case a_sum_along => k_is)
    (case l_sum_along => k_is)
    (case c_sum_along => k_is)
    (case k_sum_along => k_is)
    (case a_whole => k_is)
    (case l_whole => k_is)
    (case c_whole => k_is)
    (case k_whole => k_is)
    (case a_turned => k_is)
    (case l_turned => k_is)
    (case c_turned => k_is)
    (case k_turned => k_is)
    (case a_other_way => k_is)
    (case l_other_way => k_is)
    (case c_other_way => k_is)
    (case k_other_way => k_is)
    (case a_put_together => k_is)
    (case l_put_together => k_is)
    (case c_put_together => k_is)
    (case k_put_together => k_is)
    (case a_product => k_is)
    (case l_product => k_is)
    (case c_product => k_is)
    (case k_product => k_is)
    (case a_Even_shows => k_is)
    (case i_Even_shows => k_is)
    (case l_Even_shows => k_is)
    (case c_Even_shows => k_is)
    (case k_Even_shows => k_is)
    (case a_Unlike_shows => k_is)
    (case i_Unlike_shows => k_is)
    (case l_Unlike_shows => k_is)
    (case c_Unlike_shows => k_is)
    (case k_Unlike_shows => k_is)
    (case a_told => k_is)
    (case l_told => k_is)
    (case c_told => k_is)
    (case k_told => k_is)
    (case a_three => k_is)
    (case l_three => k_is)
    (case c_three => k_is)
    (case k_three => k_is)
    (case a_parts => k_is)
    (case l_parts => k_is)
    (case c_parts => k_is)
    (case k_parts => k_is)
    (case a_asked_order => k_is)
    (case l_asked_order => k_is)
    (case c_asked_order => k_is)
    (case k_asked_order => k_is)
    (case a_odd_number => k_is)
    (case l_odd_number => k_is)
    (case c_odd_number => k_is)
    (case k_odd_number => k_is)
    (case a_odd_place => k_is)
    (case l_odd_place => k_is)
    (case c_odd_place => k_is)
    (case k_odd_place => k_is)
    (case a_letter => k_is)
    (case l_letter => k_is)
    (case c_letter => k_is)
    (case k_letter => k_is)
    (case a_is_back => k_is)
    (case l_is_back => k_is)
    (case c_is_back => k_is)
    (case k_is_back => k_is)
    (case a_number_of => k_is)
    (case l_number_of => k_is)
    (case c_number_of => k_is)
    (case k_number_of => k_is)
    (case a_number_at => k_is)
    (case l_number_at => k_is)
    (case c_number_at => k_is)
    (case k_number_at => k_is)
    (case a_place_of => k_is)
    (case l_place_of => k_is)
    (case c_place_of => k_is)
    (case k_place_of => k_is)
    (case a_made => k_is)
    (case l_made => k_is)
    (case c_made => k_is)
    (case k_made => k_is)
    (case a_total => k_is)
    (case l_total => k_is)
    (case c_total => k_is)
    (case k_total => k_is)
    (case a__law_number => k_is)
    (case l__law_number => k_is)
    (case c__law_number => k_is)
    (case k__law_number => k_is)
    (case a__law_plain => k_is)
    (case l__law_plain => k_is)
    (case c__law_plain => k_is)
    (case k__law_plain => k_is)
    (case a__law_truths => k_is)
    (case l__law_truths => k_is)
    (case c__law_truths => k_is)
    (case k__law_truths => k_is)
    (case a__law_square_right => k_is)
    (case l__law_square_right => k_is)
    (case c__law_square_right => k_is)
    (case k__law_square_right => k_is)
    (case a__law_no_of => k_is)
    (case l__law_no_of => k_is)
    (case c__law_no_of => k_is)
    (case k__law_no_of => k_is)
    (case a__law_made_promises => k_is)
    (case l__law_made_promises => k_is)
    (case c__law_made_promises => k_is)
    (case k__law_made_promises => k_is)
    (case lc__law_made_promises => k_is)
    (case v11__law_made_promises => rfl)
    (case v1d__law_made_promises => rfl)
    (case v18__law_made_promises => rfl)
    (case v07__law_made_promises => rfl)
    (case v09__law_made_promises => rfl)
    (case v10__law_made_promises => rfl)
    (case ncP__law_made_promises => decide)
    (case noP__law_made_promises => kernel_rfl)
    (case a__law_promises_right => k_is)
    (case l__law_promises_right => k_is)
    (case c__law_promises_right => k_is)
    (case k__law_promises_right => k_is)
    (case a__law_others_promises => k_is)
    (case l__law_others_promises => k_is)
    (case c__law_others_promises => k_is)
    (case k__law_others_promises => k_is)
    (case lc__law_others_promises => k_is)
    (case v11__law_others_promises => rfl)
    (case v1d__law_others_promises => rfl)
    (case v18__law_others_promises => rfl)
    (case v07__law_others_promises => rfl)
    (case v09__law_others_promises => rfl)
    (case v10__law_others_promises => rfl)
    (case ncP__law_others_promises => decide)
    (case noP__law_others_promises => kernel_rfl)
    (case a_law => k_is)
    (case l_law => k_is)
    (case c_law => k_is)
    (case k_law => k_is)
    (case a_SquareError => k_is)
    (case x_SquareError => k_exc)
    (case k_SquareError => k_is)
    (case s_SquareError => k_is)
    (case t_SquareError => k_is)
    (case a_BadOrder => k_is)
    (case x_BadOrder => k_exc)
    (case k_BadOrder => k_is)
    (case s_BadOrder => k_is)
    (case t_BadOrder => k_is)
    (case a_BadPlace => k_is)
    (case x_BadPlace => k_exc)
    (case k_BadPlace => k_is)
    (case s_BadPlace => k_is)
    (case t_BadPlace => k_is)
    (case a_BadNumber => k_is)
    (case x_BadNumber => k_exc)
    (case k_BadNumber => k_is)
    (case s_BadNumber => k_is)
    (case t_BadNumber => k_is)
    (case a_BadSquare => k_is)
    (case x_BadSquare => k_exc)
    (case k_BadSquare => k_is)
    (case s_BadSquare => k_is)
    (case t_BadSquare => k_is)
    (case a_NotEven => k_is)
    (case x_NotEven => k_exc)
    (case k_NotEven => k_is)
    (case s_NotEven => k_is)
    (case t_NotEven => k_is)
    (case a_TooGreat => k_is)
    (case x_TooGreat => k_exc)
    (case k_TooGreat => k_is)
    (case s_TooGreat => k_is)
    (case t_TooGreat => k_is)
    (case ed_SquareError => k_is)
    (case eg_BadOrder => k_is)
    (case ek_BadOrder => k_is)
    (case ed_BadOrder => k_is)
    (case ec_BadOrder => k_is)
    (case em_BadOrder => k_is)
    (case eq_BadOrder => k_is)
    (case k1_BadOrder_TooGreat => kit_is)
    (case k1_BadOrder_NotEven => kit_is)
    (case eg_BadPlace => k_is)
    (case ek_BadPlace => k_is)
    (case ed_BadPlace => k_is)
    (case ec_BadPlace => k_is)
    (case em_BadPlace => k_is)
    (case eq_BadPlace => k_is)
    (case k1_BadPlace_TooGreat => kit_is)
    (case k1_BadPlace_NotEven => kit_is)
    (case eg_BadNumber => k_is)
    (case ek_BadNumber => k_is)
    (case ed_BadNumber => k_is)
    (case ec_BadNumber => k_is)
    (case em_BadNumber => k_is)
    (case eq_BadNumber => k_is)
    (case k1_BadNumber_TooGreat => kit_is)
    (case k1_BadNumber_NotEven => kit_is)
    (case eg_BadSquare => k_is)
    (case ek_BadSquare => k_is)
    (case ed_BadSquare => k_is)
    (case ec_BadSquare => k_is)
    (case em_BadSquare => k_is)
    (case eq_BadSquare => k_is)
    (case k1_BadSquare_TooGreat => kit_is)
    (case k1_BadSquare_NotEven => kit_is)
    (case eg_NotEven => k_is)
    (case ek_NotEven => k_is)
    (case ed_NotEven => k_is)
    (case ec_NotEven => k_is)
    (case em_NotEven => k_is)
    (case eq_NotEven => k_is)
    (case k1_NotEven_TooGreat => kit_is)
    (case k1_NotEven_NotEven => kit_is)
    (case eg_TooGreat => k_is)
    (case ek_TooGreat => k_is)
    (case ed_TooGreat => k_is)
    (case ec_TooGreat => k_is)
    (case em_TooGreat => k_is)
    (case eq_TooGreat => k_is)
    (case k1_TooGreat_TooGreat => kit_is)
    (case k1_TooGreat_NotEven => kit_is)
    (case a_MOST => k_is)
    (case a_FOUR => k_is)
    (case l_FOUR => k_is)
    (case y_FOUR => exact ⟨⟨_, _, rfl, rfl⟩, ⟨_, _, rfl, rfl⟩, ⟨_, _, rfl, rfl⟩, trivial⟩)
    (case n_FOUR_L => k_is)
    (case o_FOUR_L => k_is)
    (case p_FOUR_L_0 => k_is)
    (case p_FOUR_L_1 => k_is)
    (case p_FOUR_L_2 => k_is)
    (case p_FOUR_L_3 => k_is)
    (case n_FOUR_U => k_is)
    (case o_FOUR_U => k_is)
    (case p_FOUR_U_0 => k_is)
    (case p_FOUR_U_1 => k_is)
    (case p_FOUR_U_2 => k_is)
    (case p_FOUR_U_3 => k_is)
    (case n_FOUR_X => k_is)
    (case o_FOUR_X => k_is)
    (case p_FOUR_X_0 => k_is)
    (case p_FOUR_X_1 => k_is)
    (case p_FOUR_X_2 => k_is)
    (case p_FOUR_X_3 => k_is)
    (case neP_P => decide)
    (case z_isinstance => k_is)
    (case z_int => k_is)
    (case z_bool => k_is)
    (case z_list => k_is)
    (case z_len => k_is)
    (case z_all => k_is)
    (case z_range => k_is)
    (case z_sum => k_is)
    (case z_sorted => k_is)
    (case z_zip => k_is)
    (case z_divmod => k_is)
    (case z_tuple => k_is)
    (case z_str => k_is)
    (case z_abs => k_is)
    (case z_enumerate => k_is)
