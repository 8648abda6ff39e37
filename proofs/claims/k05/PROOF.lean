import PyProof.Rows.All
import Wide.All
import OpenK.AllK
import Wide.FinOn
import HandS.ForMost
import HandS.ForExc
import HandS.Flow
import HandS.Wide
import HandS.Deep
import HandS.IsInst
import HandS.Walk
import HandS.SortInts
import HandS.CallSlots
import HandS.Style
import HandS.WideBits
import HandS.ExcCtx
import HandS.TryOnly
import HandS.More
import HandS.Strs
import KE.DataMinMax
import HandS.EndBits
import HandS.Sort
import PyProof.ListRange
import HandS.ExcIs
import HandS.Dict
import HandS.HotCalls
import HandS.Zip
import PySem.Challenge.RW_evensquare_k05_whole_threes
set_option Elab.async false
set_option linter.all false
set_option maxRecDepth 100000
set_option maxHeartbeats 8000000
namespace G6
open PySem PySem.Spec PyProof.Rows L2

abbrev St := L2.St
/-! ### data -/
inductive Da where
  | non | bl (b : Bool) | int (i : Int) | str (s : Str) | lst (xs : List Da) | tup (xs : List Da) | emp | even (t : Da) | unl (a b : Da) | scr (ns : List Int) | kt (xs : List Da) | err

/-- what is told of the written part -/
structure Tx where
  K : PySem.W.Frag
  mg : Str → Option Value
  ce : Addr
  cu : Addr
  ea : Option Addr := none

def Ex (H H' : Hp) : Prop := ∀ a o, H a = some o → H' a = some o
theorem Ex.refl (H : Hp) : Ex H H := fun _ _ h => h
theorem Ex.trans {H H1 H2 : Hp} (a : Ex H H1) (b : Ex H1 H2) : Ex H H2 := fun x o h => b x o (a x o h)
theorem Ex.back {H H' : Hp} {p : Addr} (e : Ex H H') (h : H' p = none) : H p = none := by
  cases q : H p with
  | none => rfl
  | some o => rw [e p o q] at h; cases h
theorem Ex.new {H : Hp} {p : Addr} {o : HO} (h : H p = none) : Ex H (upd H p o) := fun a u e => by
  rw [upd_ne (ne_of_none e h)]
  exact e
theorem Ex.mut {H H' : Hp} {p : Addr} {o : HO} (e : Ex H H') (h : H p = none) : Ex H (upd H' p o) := fun a u ha => by
  rw [upd_ne (ne_of_none ha h)]
  exact e a u ha
theorem ex_rd {H H' : Hp} {a : Addr} {u : HO} (e : Ex H H') (h : Rd H a u) : Rd H' a u := by
  rcases h with h | ⟨o, h⟩
  · exact .inl (e a _ h)
  · exact .inr ⟨o, e a _ h⟩
theorem ex_l {K : PySem.W.Frag} {H H' : Hp} {a : Addr} {xs : List V} (e : Ex H H') (h : SqL K H a xs) : SqL K H' a xs := by
  rcases h with h | h
  · exact .inl (ex_rd e h)
  · exact .inr h
theorem ex_t {K : PySem.W.Frag} {H H' : Hp} {a : Addr} {xs : List V} (e : Ex H H') (h : SqT K H a xs) : SqT K H' a xs := by
  rcases h with h | h
  · exact .inl (ex_rd e h)
  · exact .inr h

mutual
inductive Rep (T : Tx) (H : Hp) : V → Da → Prop
  | non : Rep T H .non .non
  | bl (b : Bool) : Rep T H (.bl b) (.bl b)
  | int (i : Int) : Rep T H (.int i) (.int i)
  | str (s : Str) : Rep T H (.str s) (.str s)
  | lst {a : Addr} {xs : List V} {ds : List Da} : H a = some (.lst xs) → RepAll T H xs ds → Rep T H (.ref a) (.lst ds)
  | tup {a : Addr} {xs : List V} {ds : List Da} : SqT T.K H a xs → RepAll T H xs ds → Rep T H (.ref a) (.tup ds)
  | emp {a : Addr} : H a = some (.dK []) → Rep T H (.ref a) .emp
  | even {a dx : Addr} {v : V} {d : Da} : H a = some (.ins T.ce dx [("total", v)]) → Rep T H v d → Rep T H (.ref a) (.even d)
  | unl {a dx : Addr} {v u : V} {d e : Da} : H a = some (.ins T.cu dx [("one", v), ("other", u)]) → Rep T H v d → Rep T H u e → Rep T H (.ref a) (.unl d e)
  | scr {a : Addr} {ns : List Int} : SqL T.K H a (ns.map V.int) → Rep T H (.ref a) (.scr ns)
  | kt {a : Addr} {o : Obj} {xs : List V} {ds : List Da} : T.K.lookup a = some o → o.cls = .type "tuple" → o.dict = none → SqT T.K H a xs → RepAll T H xs ds → Rep T H (.ref a) (.kt ds)
  | err {a : Addr} : T.ea = some a → Rep T H (.ref a) .err
inductive RepAll (T : Tx) (H : Hp) : List V → List Da → Prop
  | nil : RepAll T H [] []
  | cons {v : V} {vs : List V} {d : Da} {ds : List Da} : Rep T H v d → RepAll T H vs ds → RepAll T H (v :: vs) (d :: ds)
end
mutual
theorem Rep.mono {T : Tx} {H H' : Hp} (e : Ex H H') : ∀ {v : V} {d : Da}, Rep T H v d → Rep T H' v d
  | _, _, .non => .non
  | _, _, .bl b => .bl b
  | _, _, .int i => .int i
  | _, _, .str s => .str s
  | _, _, .lst h r => .lst (e _ _ h) (RepAll.mono e r)
  | _, _, .tup h r => .tup (ex_t e h) (RepAll.mono e r)
  | _, _, .emp h => .emp (e _ _ h)
  | _, _, .even h r => .even (e _ _ h) (Rep.mono e r)
  | _, _, .unl h r q => .unl (e _ _ h) (Rep.mono e r) (Rep.mono e q)
  | _, _, .scr h => .scr (ex_l e h)
  | _, _, .kt h1 h2 h3 h r => .kt h1 h2 h3 (ex_t e h) (RepAll.mono e r)
  | _, _, .err h => .err h
theorem RepAll.mono {T : Tx} {H H' : Hp} (e : Ex H H') : ∀ {vs : List V} {ds : List Da}, RepAll T H vs ds → RepAll T H' vs ds
  | _, _, .nil => .nil
  | _, _, .cons r t => .cons (Rep.mono e r) (RepAll.mono e t)
end
section
variable {T : Tx} {H : Hp}
theorem RepAll.length : ∀ {vs : List V} {ds : List Da}, RepAll T H vs ds → vs.length = ds.length
  | _, _, .nil => rfl
  | _, _, .cons _ t => by simp [RepAll.length t]
theorem RepAll.get : ∀ {vs : List V} {ds : List Da} {i : Nat} {v : V}, RepAll T H vs ds → vs[i]? = some v → ∃ d, ds[i]? = some d ∧ Rep T H v d
  | _, _, _, _, .nil, e => by simp at e
  | _, _, 0, _, .cons r _, e => by simp at e; subst e; exact ⟨_, rfl, r⟩
  | _, _, i + 1, v, .cons _ t, e => by
    obtain ⟨d, h1, h2⟩ := RepAll.get (i := i) (v := v) t (by simpa using e)
    exact ⟨d, by simpa using h1, h2⟩
theorem RepAll.get' : ∀ {vs : List V} {ds : List Da} {i : Nat} {d : Da}, RepAll T H vs ds → ds[i]? = some d → ∃ v, vs[i]? = some v ∧ Rep T H v d
  | _, _, _, _, .nil, e => by simp at e
  | _, _, 0, _, .cons r _, e => by simp at e; subst e; exact ⟨_, rfl, r⟩
  | _, _, i + 1, v, .cons _ t, e => by
    obtain ⟨d, h1, h2⟩ := RepAll.get' (i := i) (d := v) t (by simpa using e)
    exact ⟨d, by simpa using h1, h2⟩
theorem RepAll.append : ∀ {vs us : List V} {ds es : List Da}, RepAll T H vs ds → RepAll T H us es → RepAll T H (vs ++ us) (ds ++ es)
  | _, _, _, _, .nil, s => s
  | _, _, _, _, .cons r t, s => .cons r (RepAll.append t s)
theorem RepAll.set {x : V} {d : Da} (r : Rep T H x d) : ∀ {vs : List V} {ds : List Da} (i : Nat), RepAll T H vs ds → RepAll T H (vs.set i x) (ds.set i d)
  | _, _, _, .nil => .nil
  | _, _, 0, .cons _ t => .cons r t
  | _, _, i + 1, .cons q t => .cons q (RepAll.set r i t)
theorem RepAll.take : ∀ {vs : List V} {ds : List Da} (n : Nat), RepAll T H vs ds → RepAll T H (vs.take n) (ds.take n)
  | _, _, 0, _ => .nil
  | _, _, _ + 1, .nil => .nil
  | _, _, n + 1, .cons r t => .cons r (RepAll.take n t)
theorem RepAll.drop : ∀ {vs : List V} {ds : List Da} (n : Nat), RepAll T H vs ds → RepAll T H (vs.drop n) (ds.drop n)
  | _, _, 0, r => r
  | _, _, _ + 1, .nil => .nil
  | _, _, n + 1, .cons _ t => RepAll.drop n t
theorem RepAll.reverse : ∀ {vs : List V} {ds : List Da}, RepAll T H vs ds → RepAll T H vs.reverse ds.reverse
  | _, _, .nil => .nil
  | _, _, .cons r t => by
    rw [List.reverse_cons, List.reverse_cons]
    exact (RepAll.reverse t).append (.cons r .nil)
theorem RepAll.ints : ∀ ns : List Int, RepAll T H (ns.map V.int) (ns.map Da.int)
  | [] => .nil
  | n :: ns => .cons (.int n) (RepAll.ints ns)
end

/-! ### slots, results -/
inductive Sl where
  | dead | sh (d : Da) | ow (xs : List Da) | ow2 (xss : List (List Da))
def Sl.view : Sl → Option Da
  | .dead => none
  | .sh d => some d
  | .ow xs => some (.lst xs)
  | .ow2 xss => some (.lst (xss.map .lst))
inductive Rs (α : Type) where
  | ok (a : α) | ex (c : Str) | no
def Rs.bind {α β : Type} (r : Rs α) (k : α → Rs β) : Rs β := match r with
  | .ok a => k a
  | .ex c => .ex c
  | .no => .no
def dat (r : Rs Sl) : Rs Da := match r with
  | .ok s => (match s.view with
    | some d => .ok d
    | none => .no)
  | .ex c => .ex c
  | .no => .no
def ofO {α : Type} (o : Option α) : Rs α := match o with
  | some a => .ok a
  | none => .no
abbrev Rho := List Sl
abbrev Sem1 := Rho → Rs Sl

/-! ### growing heaps: F below H; what is new may be told in F -/
structure Grow (F H F' H' : Hp) : Prop where
  f : Ex F F'
  h : Ex H H'
  s : Ex F' H'
  n : ∀ a o, F' a = some o → F a = some o ∨ H a = none
theorem Grow.refl {F H : Hp} (e : Ex F H) : Grow F H F H := ⟨Ex.refl F, Ex.refl H, e, fun _ _ h => .inl h⟩
theorem Grow.trans {F H F1 H1 F2 H2 : Hp} (a : Grow F H F1 H1) (b : Grow F1 H1 F2 H2) : Grow F H F2 H2 :=
  ⟨a.f.trans b.f, a.h.trans b.h, b.s, fun x o h => (b.n x o h).elim (fun q => a.n x o q) fun q => .inr (a.h.back q)⟩
theorem Grow.e {F H F' H' : Hp} (g : Grow F H F' H') : Ex F H' := g.f.trans g.s
/-- a new object, told in F -/
theorem Grow.new {F H : Hp} {p : Addr} {o : HO} (e : Ex F H) (h : H p = none) : Grow F H (upd F p o) (upd H p o) := by
  refine ⟨Ex.new (e.back h), Ex.new h, fun a u q => ?_, fun a u q => ?_⟩
  · by_cases z : a = p
    · subst z; rw [upd_same] at q ⊢; exact q
    · rw [upd_ne z] at q ⊢; exact e a u q
  · by_cases z : a = p
    · subst z; exact .inr h
    · rw [upd_ne z] at q; exact .inl q
/-- a new object, not told in F -/
theorem Grow.own {F H : Hp} {p : Addr} {o : HO} (e : Ex F H) (h : H p = none) : Grow F H F (upd H p o) :=
  ⟨Ex.refl F, Ex.new h, e.trans (Ex.new h), fun _ _ q => .inl q⟩
/-- all that is new is told -/
def full (F H H' : Hp) : Hp := fun a => match H a with
  | none => H' a
  | some _ => F a
theorem full_new {F H H' : Hp} {a : Addr} (h : H a = none) : full F H H' a = H' a := by unfold full; rw [h]
theorem full_old {F H H' : Hp} {a : Addr} {o : HO} (h : H a = some o) : full F H H' a = F a := by unfold full; rw [h]
theorem Grow.full {F H F' H' : Hp} (g : Grow F H F' H') : Ex F' (full F' H H') ∧ Grow F H (full F' H H') H' := by
  have e1 : Ex F' (G6.full F' H H') := fun a o q => by
    cases z : H a with
    | none => rw [full_new z]; exact g.s a o q
    | some u => rw [full_old z]; exact q
  refine ⟨e1, ⟨g.f.trans e1, g.h, fun a o q => ?_, fun a o q => ?_⟩⟩
  · cases z : H a with
    | none => rw [full_new z] at q; exact q
    | some u => rw [full_old z] at q; exact g.s a o q
  · cases z : H a with
    | none => exact .inr rfl
    | some u => rw [full_old z] at q; rw [← z]; exact g.n a o q

section
variable (T : Tx)
/-- the own rows of an own list -/
def Rows (F H : Hp) : List Addr → List (List Da) → Prop
  | [], [] => True
  | a :: as, xs :: xss => (∃ vs, H a = some (.lst vs) ∧ RepAll T F vs xs) ∧ Rows F H as xss
  | _, _ => False
/-- a value that a reading gave, H the heap ahead -/
def SlV (H F' H' : Hp) (v : V) : Sl → Prop
  | .dead => False
  | .sh d => Rep T F' v d
  | .ow xs => ∃ p vs, v = .ref p ∧ H p = none ∧ F' p = none ∧ H' p = some (.lst vs) ∧ RepAll T F' vs xs
  | .ow2 xss => ∃ p as, v = .ref p ∧ H p = none ∧ F' p = none ∧ H' p = some (.lst (as.map V.ref)) ∧ (p :: as).Nodup ∧ (∀ a ∈ as, H a = none ∧ F' a = none) ∧ Rows T F' H' as xss
end
section
variable {T : Tx} {F H F' H' : Hp}
theorem Rows.mono {F F' H H' : Hp} (e : Ex F F') : ∀ {as : List Addr} {xss : List (List Da)}, (∀ a ∈ as, H' a = H a) → Rows T F H as xss → Rows T F' H' as xss
  | [], [], _, _ => trivial
  | a :: as, xs :: xss, k, ⟨⟨vs, h, r⟩, t⟩ => ⟨⟨vs, by rw [k a List.mem_cons_self]; exact h, r.mono e⟩, Rows.mono e (fun b hb => k b (List.mem_cons_of_mem _ hb)) t⟩
  | [], _ :: _, _, h => h.elim
  | _ :: _, [], _, h => h.elim
theorem Rows.reps : ∀ {as : List Addr} {xss : List (List Da)}, Ex F F' → (∀ a ∈ as, F' a = H a) → Rows T F H as xss → RepAll T F' (as.map V.ref) (xss.map Da.lst)
  | [], [], _, _, _ => .nil
  | a :: as, xs :: xss, e, k, ⟨⟨vs, h, r⟩, t⟩ => .cons (.lst (by rw [k a List.mem_cons_self]; exact h) (r.mono e)) (Rows.reps e (fun b hb => k b (List.mem_cons_of_mem _ hb)) t)
  | [], _ :: _, _, _, h => h.elim
  | _ :: _, [], _, _, h => h.elim
theorem Rows.length : ∀ {as : List Addr} {xss : List (List Da)}, Rows T F H as xss → as.length = xss.length
  | [], [], _ => rfl
  | _ :: _, _ :: _, ⟨_, t⟩ => by simp [Rows.length t]
  | [], _ :: _, h => h.elim
  | _ :: _, [], h => h.elim
theorem SlV.back {H0 : Hp} {v : V} (e : Ex H0 H) : ∀ {s : Sl}, SlV T H F' H' v s → SlV T H0 F' H' v s
  | .sh _, h => h
  | .ow _, ⟨p, vs, h1, h2, h3, h4, h5⟩ => ⟨p, vs, h1, e.back h2, h3, h4, h5⟩
  | .ow2 _, ⟨p, as, h1, h2, h3, h4, h5, h6, h7⟩ => ⟨p, as, h1, e.back h2, h3, h4, h5, fun a ha => ⟨e.back (h6 a ha).1, (h6 a ha).2⟩, h7⟩
/-- seen as data -/
theorem SlV.see {v : V} {s : Sl} {d : Da} (g : Grow F H F' H') (h : SlV T H F' H' v s) (hv : s.view = some d) : ∃ F'', Grow F H F'' H' ∧ Rep T F'' v d := by
  obtain ⟨e1, g1⟩ := g.full
  refine ⟨full F' H H', g1, ?_⟩
  cases s with
  | dead => cases hv
  | sh d' => cases hv; exact Rep.mono e1 h
  | ow xs =>
    cases hv
    obtain ⟨p, vs, rfl, h2, h3, h4, h5⟩ := h
    exact .lst (by rw [full_new h2]; exact h4) (h5.mono e1)
  | ow2 xss =>
    cases hv
    obtain ⟨p, as, rfl, h2, h3, h4, h5, h6, h7⟩ := h
    exact .lst (by rw [full_new h2]; exact h4) (Rows.reps e1 (fun a ha => full_new (h6 a ha).1) h7)
end

/-! ### expressions -/
section
variable (T : Tx) (W : WX)
structure View (F : Hp) (σ : St) (ρ : Rho) : Prop where
  len : σ.length = ρ.length
  at_ : ∀ (i : Nat) (s : Sl) (d : Da), ρ[i]? = some s → s.view = some d → ∃ v, σ[i]? = some (some v) ∧ Rep T F v d
def Post (σ : St) (F H : Hp) (Q : VK) : Rs Sl → Prop
  | .ok s => ∀ v F' H', Grow F H F' H' → SlV T H F' H' v s → Q v H'
  | .ex c => ∀ C H', T.mg c = some (.ref C) → Ex H H' → W (.ref C) none σ H'
  | .no => False
def tD (f : Sem1) : TE := fun σ H Q => ∃ F ρ, Ex F H ∧ View T F σ ρ ∧ Post T W σ F H Q (f ρ)
def PostT (σ : St) (F H : Hp) (Q : Bool → Hp → Prop) : Rs Bool → Prop
  | .ok b => ∀ F' H', Grow F H F' H' → Q b H'
  | .ex c => ∀ C H', T.mg c = some (.ref C) → Ex H H' → W (.ref C) none σ H'
  | .no => False
def tT (f : Rho → Rs Bool) : TT := fun σ H Q => ∃ F ρ, Ex F H ∧ View T F σ ρ ∧ PostT T W σ F H Q (f ρ)
def PostA (σ : St) (F H : Hp) (Q : List V → Hp → Prop) : Rs (List Da) → Prop
  | .ok ds => ∀ vs F' H', Grow F H F' H' → RepAll T F' vs ds → Q vs H'
  | .ex c => ∀ C H', T.mg c = some (.ref C) → Ex H H' → W (.ref C) none σ H'
  | .no => False
def tA (f : Rho → Rs (List Da)) : TA := fun σ H Q => ∃ F ρ, Ex F H ∧ View T F σ ρ ∧ PostA T W σ F H Q (f ρ)
end
section
variable {T : Tx} {W : WX} {σ : St} {F H F' H' : Hp} {ρ : Rho}
theorem View.mono (e : Ex F F') (h : View T F σ ρ) : View T F' σ ρ := ⟨h.len, fun i s d a b => let ⟨v, x, y⟩ := h.at_ i s d a b; ⟨v, x, y.mono e⟩⟩
theorem Post.mono {Q : VK} (g : Grow F H F' H') : ∀ {r : Rs Sl}, Post T W σ F H Q r → Post T W σ F' H' Q r
  | .ok s, h => fun v F2 H2 g2 r => h v F2 H2 (g.trans g2) (r.back g.h)
  | .ex c, h => fun C H2 e1 e2 => h C H2 e1 (g.h.trans e2)
  | .no, h => h.elim
theorem PostT.mono {Q : Bool → Hp → Prop} (g : Grow F H F' H') : ∀ {r : Rs Bool}, PostT T W σ F H Q r → PostT T W σ F' H' Q r
  | .ok s, h => fun F2 H2 g2 => h F2 H2 (g.trans g2)
  | .ex c, h => fun C H2 e1 e2 => h C H2 e1 (g.h.trans e2)
  | .no, h => h.elim
theorem PostA.mono {Q : List V → Hp → Prop} (g : Grow F H F' H') : ∀ {r : Rs (List Da)}, PostA T W σ F H Q r → PostA T W σ F' H' Q r
  | .ok s, h => fun v F2 H2 g2 r => h v F2 H2 (g.trans g2) r
  | .ex c, h => fun C H2 e1 e2 => h C H2 e1 (g.h.trans e2)
  | .no, h => h.elim
/-- the exception's wish, whatever the kind of the result -/
def PEx (T : Tx) (W : WX) (σ : St) (H : Hp) (c : Str) : Prop := ∀ C H', T.mg c = some (.ref C) → Ex H H' → W (.ref C) none σ H'
theorem seq_d {α : Type} {P : Rs α → Prop} {f : Sem1} {k : Da → Rs α} {Q : VK} (e : Ex F H) (vw : View T F σ ρ) (hp : P ((dat (f ρ)).bind k)) (hno : ¬ P .no) (hex : ∀ c, P (.ex c) → PEx T W σ H c)
    (q : ∀ d v F' H', Grow F H F' H' → Rep T F' v d → P (k d) → Q v H') : tD T W f σ H Q := by
  refine ⟨F, ρ, e, vw, ?_⟩
  cases hf : f ρ with
  | no => rw [hf] at hp; exact (hno hp).elim
  | ex c => rw [hf] at hp; exact hex c hp
  | ok s =>
    rw [hf] at hp
    cases hs : s.view with
    | none => simp only [dat, hs, Rs.bind] at hp; exact (hno hp).elim
    | some d =>
      simp only [dat, hs, Rs.bind] at hp
      intro v F' H' g r
      obtain ⟨F2, g2, r2⟩ := r.see g hs
      exact q d v F2 H' g2 r2 hp
/-- an operand, then the rest -/
theorem bind_d {f : Sem1} {k : Da → Rs Sl} {Q Q' : VK} (e : Ex F H) (vw : View T F σ ρ) (hp : Post T W σ F H Q ((dat (f ρ)).bind k))
    (q : ∀ d v F' H', Grow F H F' H' → Rep T F' v d → Post T W σ F' H' Q (k d) → Q' v H') : tD T W f σ H Q' :=
  seq_d (P := Post T W σ F H Q) e vw hp (fun z => z) (fun _ z => z) fun d v F' H' g r h => q d v F' H' g r (h.mono g)
theorem bindT_d {f : Sem1} {k : Da → Rs Bool} {Q : Bool → Hp → Prop} {Q' : VK} (e : Ex F H) (vw : View T F σ ρ) (hp : PostT T W σ F H Q ((dat (f ρ)).bind k))
    (q : ∀ d v F' H', Grow F H F' H' → Rep T F' v d → PostT T W σ F' H' Q (k d) → Q' v H') : tD T W f σ H Q' :=
  seq_d (P := PostT T W σ F H Q) e vw hp (fun z => z) (fun _ z => z) fun d v F' H' g r h => q d v F' H' g r (h.mono g)
theorem bindA_d {f : Sem1} {k : Da → Rs (List Da)} {Q : List V → Hp → Prop} {Q' : VK} (e : Ex F H) (vw : View T F σ ρ) (hp : PostA T W σ F H Q ((dat (f ρ)).bind k))
    (q : ∀ d v F' H', Grow F H F' H' → Rep T F' v d → PostA T W σ F' H' Q (k d) → Q' v H') : tD T W f σ H Q' :=
  seq_d (P := PostA T W σ F H Q) e vw hp (fun z => z) (fun _ z => z) fun d v F' H' g r h => q d v F' H' g r (h.mono g)
/-- a test, then the rest -/
theorem bind_t {f : Rho → Rs Bool} {k : Bool → Rs Sl} {Q : VK} {Q' : Bool → Hp → Prop} (e : Ex F H) (vw : View T F σ ρ) (hp : Post T W σ F H Q ((f ρ).bind k))
    (q : ∀ b F' H', Grow F H F' H' → Post T W σ F' H' Q (k b) → Q' b H') : tT T W f σ H Q' := by
  refine ⟨F, ρ, e, vw, ?_⟩
  cases hf : f ρ with
  | no => rw [hf] at hp; exact hp.elim
  | ex c => rw [hf] at hp; exact hp
  | ok b =>
    rw [hf] at hp
    intro F' H' g
    exact q b F' H' g (Post.mono g hp)
theorem bindT_t {f : Rho → Rs Bool} {k : Bool → Rs Bool} {Q : Bool → Hp → Prop} {Q' : Bool → Hp → Prop} (e : Ex F H) (vw : View T F σ ρ) (hp : PostT T W σ F H Q ((f ρ).bind k))
    (q : ∀ b F' H', Grow F H F' H' → PostT T W σ F' H' Q (k b) → Q' b H') : tT T W f σ H Q' := by
  refine ⟨F, ρ, e, vw, ?_⟩
  cases hf : f ρ with
  | no => rw [hf] at hp; exact hp.elim
  | ex c => rw [hf] at hp; exact hp
  | ok b =>
    rw [hf] at hp
    intro F' H' g
    exact q b F' H' g (PostT.mono g hp)
theorem bind_a {f : Rho → Rs (List Da)} {k : List Da → Rs Sl} {Q : VK} {Q' : List V → Hp → Prop} (e : Ex F H) (vw : View T F σ ρ) (hp : Post T W σ F H Q ((f ρ).bind k))
    (q : ∀ ds vs F' H', Grow F H F' H' → RepAll T F' vs ds → Post T W σ F' H' Q (k ds) → Q' vs H') : tA T W f σ H Q' := by
  refine ⟨F, ρ, e, vw, ?_⟩
  cases hf : f ρ with
  | no => rw [hf] at hp; exact hp.elim
  | ex c => rw [hf] at hp; exact hp
  | ok ds =>
    rw [hf] at hp
    intro vs F' H' g r
    exact q ds vs F' H' g r (Post.mono g hp)
theorem bindA_a {f : Rho → Rs (List Da)} {k : List Da → Rs (List Da)} {Q : List V → Hp → Prop} {Q' : List V → Hp → Prop} (e : Ex F H) (vw : View T F σ ρ) (hp : PostA T W σ F H Q ((f ρ).bind k))
    (q : ∀ ds vs F' H', Grow F H F' H' → RepAll T F' vs ds → PostA T W σ F' H' Q (k ds) → Q' vs H') : tA T W f σ H Q' := by
  refine ⟨F, ρ, e, vw, ?_⟩
  cases hf : f ρ with
  | no => rw [hf] at hp; exact hp.elim
  | ex c => rw [hf] at hp; exact hp
  | ok ds =>
    rw [hf] at hp
    intro vs F' H' g r
    exact q ds vs F' H' g r (PostA.mono g hp)
end

theorem pe_imp {X : Cx} {e : Expr} {t t' : TE} (h : PE X e t) (i : ∀ σ H Q, t' σ H Q → t σ H Q) : PE X e t' := ⟨fun pins s σ H Q I hw => h.run pins s σ H Q I (i σ H Q hw)⟩
theorem pt_imp {X : Cx} {e : Expr} {t t' : TT} (h : PT X e t) (i : ∀ σ H Q, t' σ H Q → t σ H Q) : PT X e t' := ⟨fun pins s σ H Q I hw => h.run pins s σ H Q I (i σ H Q hw)⟩
theorem pw_imp {X : Cx} {e : Expr} {t t' : TT} (h : PW X e t) (i : ∀ σ H Q, t' σ H Q → t σ H Q) : PW X e t' := ⟨fun wh pins s σ H Q I hw => h.run wh pins s σ H Q I (i σ H Q hw)⟩
theorem pa_imp {X : Cx} {e : List Expr} {t t' : TA} (h : PA X e t) (i : ∀ σ H Q, t' σ H Q → t σ H Q) : PA X e t' := ⟨fun pos pins s σ H Q I hw => h.run pos pins s σ H Q I (i σ H Q hw)⟩
theorem ps_imp {X : Cx} {st : Stmt} {t t' : TS} (h : PS X st t) (i : ∀ D σ H, t' D σ H → t D σ H) : PS X st t' := ⟨fun pins s σ H D I hw => h.run pins s σ H D I (i D σ H hw)⟩
theorem pss_imp {X : Cx} {st : List Stmt} {t t' : TS} (h : PSs X st t) (i : ∀ D σ H, t' D σ H → t D σ H) : PSs X st t' := ⟨fun pins s σ H D I hw => h.run pins s σ H D I (i D σ H hw)⟩
/-- one of two readings -/
theorem pe_orR {X : Cx} {e : Expr} {t t' : TE} (h : PE X e t) (h' : PE X e t') : PE X e (fun σ H Q => t σ H Q ∨ t' σ H Q) :=
  ⟨fun pins s σ H Q I hw => hw.elim (h.run pins s σ H Q I) (h'.run pins s σ H Q I)⟩

/-! ### the readings: names, constants, operators -/
def eVar (i : Nat) : Sem1 := fun ρ => match ρ[i]? with
  | some s => (match s.view with
    | some d => .ok (.sh d)
    | none => .no)
  | none => .no
def eC (d : Da) : Sem1 := fun _ => .ok (.sh d)
def eOp (k : Da → Da → Option Sl) (f g : Sem1) : Sem1 := fun ρ => (dat (f ρ)).bind fun x => (dat (g ρ)).bind fun y => ofO (k x y)
def eUn (k : Da → Option Sl) (f : Sem1) : Sem1 := fun ρ => (dat (f ρ)).bind fun x => ofO (k x)
def RD2 (T : Tx) (r : R2) (k : Da → Da → Option Sl) : Prop := ∀ (F H : Hp) (x y : V) (d e : Da) (s : Sl) (Q : VK), Ex F H → Rep T F x d → Rep T F y e → k d e = some s →
  (∀ v F' H', Grow F H F' H' → SlV T H F' H' v s → Q v H') → r x y H Q
def RD1 (T : Tx) (r : V → Hp → VK → Prop) (k : Da → Option Sl) : Prop := ∀ (F H : Hp) (x : V) (d : Da) (s : Sl) (Q : VK), Ex F H → Rep T F x d → k d = some s →
  (∀ v F' H', Grow F H F' H' → SlV T H F' H' v s → Q v H') → r x H Q
def RDA (T : Tx) (r : List V → Hp → VK → Prop) (k : List Da → Option Sl) : Prop := ∀ (F H : Hp) (xs : List V) (ds : List Da) (s : Sl) (Q : VK), Ex F H → RepAll T F xs ds → k ds = some s →
  (∀ v F' H', Grow F H F' H' → SlV T H F' H' v s → Q v H') → r xs H Q
section
variable {X : Cx} {T : Tx} {W : WX} {a b c : Expr} {f g h : Sem1} {pos : Pos}
theorem post_sh {σ : St} {F H : Hp} {Q : VK} {v : V} {d : Da} (e : Ex F H) (r : Rep T F v d) (hp : Post T W σ F H Q (.ok (.sh d))) : Q v H := hp v F H (Grow.refl e) r
theorem e_var (i : Nat) {x : Str} (hN : X.N[i]? = some x := by rfl) (hv : Vis X.env.scope x := by first | exact Or.inl rfl | exact Or.inr (Or.inl rfl) | exact Or.inr (Or.inr rfl)) (hd : (x == ("__debug__" : Str)) = false := by decide)
    (hcd : (x == ("__classdict__" : Str)) = false := by decide) : PE X (.Name x pos) (tD T W (eVar i)) := by
  refine pe_imp (pe_var hN hv hd hcd) fun σ H Q ⟨F, ρ, e, vw, hp⟩ => ?_
  unfold eVar at hp
  cases h1 : ρ[i]? with
  | none => simp only [h1] at hp; exact hp.elim
  | some s =>
    simp only [h1] at hp
    cases h2 : s.view with
    | none => simp only [h2] at hp; exact hp.elim
    | some d =>
      simp only [h2] at hp
      obtain ⟨v, e1, e2⟩ := vw.at_ i s d h1 h2
      exact ⟨v, e1, post_sh e e2 hp⟩
theorem e_int {i : Int} {j : Nat} : PE X (.Constant (.int i) j pos) (tD T W (eC (.int i))) := pe_imp pe_int fun σ H Q ⟨F, ρ, e, vw, hp⟩ => post_sh e (.int i) hp
theorem e_str {x : Str} {j : Nat} : PE X (.Constant (.str x) j pos) (tD T W (eC (.str x))) := pe_imp pe_str fun σ H Q ⟨F, ρ, e, vw, hp⟩ => post_sh e (.str x) hp
theorem e_bl {x : Bool} {j : Nat} : PE X (.Constant (.bool x) j pos) (tD T W (eC (.bl x))) := pe_imp pe_bl fun σ H Q ⟨F, ρ, e, vw, hp⟩ => post_sh e (.bl x) hp
theorem e_non {j : Nat} : PE X (.Constant .none j pos) (tD T W (eC .non)) := pe_imp pe_non fun σ H Q ⟨F, ρ, e, vw, hp⟩ => post_sh e .non hp
theorem op_core {r : R2} {k : Da → Da → Option Sl} (hr : RD2 T r k) : ∀ σ H Q, tD T W (eOp k f g) σ H Q → tOp r (tD T W f) (tD T W g) σ H Q := fun σ H Q ⟨F, ρ, e, vw, hp⟩ => by
  refine bind_d e vw hp fun x v1 F1 H1 g1 r1 hp1 => ?_
  refine bind_d g1.s (vw.mono g1.f) hp1 fun y v2 F2 H2 g2 r2 hp2 => ?_
  cases hk : k x y with
  | none => rw [hk] at hp2; exact hp2.elim
  | some s =>
    rw [hk] at hp2
    exact hr F2 H2 v1 v2 x y s Q g2.s (r1.mono g2.f) r2 hk hp2
theorem e_op {op : Operator} {r : R2} {k : Da → Da → Option Sl} (hr : RD2 T r k) (ho : OpR X (binaryOp op) r) (ha : PE X a (tD T W f)) (hb : PE X b (tD T W g)) : PE X (.BinOp a op b pos) (tD T W (eOp k f g)) :=
  pe_imp (pe_op ho ha hb) (op_core hr)
theorem e_cmp {op : CmpOp} {r : R2} {k : Da → Da → Option Sl} (hr : RD2 T r k) (ho : OpR X (compareOp op) r) (ha : PE X a (tD T W f)) (hb : PE X b (tD T W g)) (hm : behindInMarks op b = false) : PE X (.Compare a [op] [b] pos) (tD T W (eOp k f g)) :=
  pe_imp (pe_cmpR ho ha hb hm) (op_core hr)
theorem e_un {op : UnaryOp} {r : V → Hp → VK → Prop} {k : Da → Option Sl} (hr : RD1 T r k) (ho : UnR X (unaryOp op) r) (ha : PE X a (tD T W f)) : PE X (.UnaryOp op a pos) (tD T W (eUn k f)) :=
  pe_imp (pe_un ho ha) fun σ H Q ⟨F, ρ, e, vw, hp⟩ => by
    refine bind_d e vw hp fun x v1 F1 H1 g1 r1 hp1 => ?_
    cases hk : k x with
    | none => rw [hk] at hp1; exact hp1.elim
    | some s =>
      rw [hk] at hp1
      exact hr F1 H1 v1 x s Q g1.s r1 hk hp1
/-! ints -/
def kI (p : Int → Int → Bool) (z : Int → Int → Da) : Da → Da → Option Sl
  | .int i, .int j => if p i j = true then some (.sh (z i j)) else none
  | _, _ => none
theorem rd_I0 {gV : Int → Int → V} {z : Int → Int → Da} (h : ∀ i j (H : Hp), Rep T H (gV i j) (z i j)) : RD2 T (rI0 gV) (kI (fun _ _ => true) z) := fun F H x y d e s Q ex rx ry hk q => by
  cases rx with
  | int i => cases ry with
    | int j =>
      simp only [kI, if_true, Option.some.injEq] at hk
      subst hk
      exact ⟨i, j, rfl, rfl, q _ F H (Grow.refl ex) (h i j F)⟩
    | _ => cases hk
  | _ => cases ry <;> cases hk
theorem rd_I {C : Int → Int → Prop} {p : Int → Int → Bool} {gV : Int → Int → V} {z : Int → Int → Da} (hc : ∀ i j, p i j = true → C i j) (h : ∀ i j (H : Hp), p i j = true → Rep T H (gV i j) (z i j)) : RD2 T (rI C gV) (kI p z) := fun F H x y d e s Q ex rx ry hk q => by
  cases rx with
  | int i => cases ry with
    | int j =>
      simp only [kI] at hk
      by_cases hp : p i j = true
      · rw [if_pos hp] at hk
        cases hk
        exact ⟨i, j, rfl, rfl, hc i j hp, q _ F H (Grow.refl ex) (h i j F hp)⟩
      · rw [if_neg hp] at hk; cases hk
    | _ => cases hk
  | _ => cases ry <;> cases hk
end
end G6

namespace G6
open PySem PySem.Spec PyProof.Rows L2

/-! ### lists and tuples as data -/
def asL : Da → Option (List Da)
  | .lst xs => some xs
  | .scr ns => some (ns.map .int)
  | _ => none
theorem Rep.list {T : Tx} {H : Hp} {v : V} {d : Da} {xs : List Da} (r : Rep T H v d) (h : asL d = some xs) : ∃ a vs, v = .ref a ∧ SqL T.K H a vs ∧ RepAll T H vs xs := by
  cases r with
  | lst e q => cases h; exact ⟨_, _, rfl, SqL.of e, q⟩
  | scr e => cases h; exact ⟨_, _, rfl, e, RepAll.ints _⟩
  | _ => cases h
theorem RepAll.int_of {T : Tx} {H : Hp} : ∀ {vs : List V} {ns : List Int}, RepAll T H vs (ns.map Da.int) → vs = ns.map V.int
  | _, [], .nil => rfl
  | _, n :: ns, .cons r t => by cases r; rw [RepAll.int_of t]; rfl
theorem RepAll.bl_of {T : Tx} {H : Hp} : ∀ {vs : List V} {ns : List Bool}, RepAll T H vs (ns.map Da.bl) → vs = ns.map V.bl
  | _, [], .nil => rfl
  | _, n :: ns, .cons r t => by cases r; rw [RepAll.bl_of t]; rfl

/-! ### tests -/
def fB (f : Sem1) : Rho → Rs Bool := fun ρ => (dat (f ρ)).bind fun d => match d with
  | .bl b => .ok b
  | _ => .no
def fAnd (f g : Rho → Rs Bool) : Rho → Rs Bool := fun ρ => (f ρ).bind fun b => match b with
  | true => g ρ
  | false => .ok false
def fOr (f g : Rho → Rs Bool) : Rho → Rs Bool := fun ρ => (f ρ).bind fun b => match b with
  | true => .ok true
  | false => g ρ
def fNot (f : Rho → Rs Bool) : Rho → Rs Bool := fun ρ => (f ρ).bind fun b => .ok (!b)
def eIf (t : Rho → Rs Bool) (f g : Sem1) : Sem1 := fun ρ => (t ρ).bind fun b => match b with
  | true => f ρ
  | false => g ρ
def eAnd (f g : Sem1) : Sem1 := fun ρ => (dat (f ρ)).bind fun d => match d with
  | .bl true => g ρ
  | .bl false => .ok (.sh (.bl false))
  | _ => .no
def eOr (f g : Sem1) : Sem1 := fun ρ => (dat (f ρ)).bind fun d => match d with
  | .bl true => .ok (.sh (.bl true))
  | .bl false => g ρ
  | _ => .no
def eNot (f : Sem1) : Sem1 := fun ρ => (dat (f ρ)).bind fun d => match d with
  | .bl b => .ok (.sh (.bl (!b)))
  | _ => .no
section
variable {X : Cx} {T : Tx} {W : WX} {a b c : Expr} {f g : Sem1} {t u : Rho → Rs Bool} {pos : Pos} {rest : List Expr}
theorem b_core {Q : Bool → Hp → Prop} : ∀ σ H, tT T W (fB f) σ H Q → tD T W f σ H fun x H1 => ∃ k, x = .bl k ∧ Q k H1 := fun σ H ⟨F, ρ, e, vw, hp⟩ =>
  bindT_d e vw hp fun d v F1 H1 g1 r1 hp1 => by
    cases r1 with
    | bl b => exact ⟨b, rfl, hp1 F1 H1 (Grow.refl g1.s)⟩
    | _ => exact hp1.elim
theorem t_val (h : PE X a (tD T W f)) (he : ∀ whole, isTrue a X.env whole = (do let v ← whole; standAt a.pos; holding [v] (truthy v)) := by intro _; rfl) : PT X a (tT T W (fB f)) :=
  pt_imp (pt_val h he) fun σ H Q h => b_core σ H h
theorem w_and1 (ha : PT X a (tT T W t)) : PW X (.BoolOp .And [a] pos) (tT T W t) := pw_and1 ha
theorem w_or1 (ha : PT X a (tT T W t)) : PW X (.BoolOp .Or [a] pos) (tT T W t) := pw_or1 ha
theorem w_and (ha : PT X a (tT T W t)) (hb : PW X (.BoolOp .And (b :: rest) pos) (tT T W u)) : PW X (.BoolOp .And (a :: b :: rest) pos) (tT T W (fAnd t u)) :=
  pw_imp (pw_and ha hb) fun σ H Q ⟨F, ρ, e, vw, hp⟩ => bindT_t e vw hp fun b F1 H1 g1 hp1 => by
    cases b with
    | true => exact ⟨F1, ρ, g1.s, vw.mono g1.f, hp1⟩
    | false => exact hp1 F1 H1 (Grow.refl g1.s)
theorem w_or (ha : PT X a (tT T W t)) (hb : PW X (.BoolOp .Or (b :: rest) pos) (tT T W u)) : PW X (.BoolOp .Or (a :: b :: rest) pos) (tT T W (fOr t u)) :=
  pw_imp (pw_or ha hb) fun σ H Q ⟨F, ρ, e, vw, hp⟩ => bindT_t e vw hp fun b F1 H1 g1 hp1 => by
    cases b with
    | false => exact ⟨F1, ρ, g1.s, vw.mono g1.f, hp1⟩
    | true => exact hp1 F1 H1 (Grow.refl g1.s)
theorem t_not (ha : PT X a (tT T W t)) : PT X (.UnaryOp .Not a pos) (tT T W (fNot t)) :=
  pt_imp (pt_not ha) fun σ H Q ⟨F, ρ, e, vw, hp⟩ => bindT_t e vw hp fun b F1 H1 g1 hp1 => hp1 F1 H1 (Grow.refl g1.s)
theorem e_if (hc : PT X c (tT T W t)) (ha : PE X a (tD T W f)) (hb : PE X b (tD T W g)) : PE X (.IfExp c a b pos) (tD T W (eIf t f g)) :=
  pe_imp (pe_ifExp hc ha hb) fun σ H Q ⟨F, ρ, e, vw, hp⟩ => bind_t e vw hp fun b F1 H1 g1 hp1 => by
    cases b with
    | true => exact ⟨F1, ρ, g1.s, vw.mono g1.f, hp1⟩
    | false => exact ⟨F1, ρ, g1.s, vw.mono g1.f, hp1⟩
theorem e_one {op : PySem.BoolOp} (h : PE X a (tD T W f)) : PE X (.BoolOp op [a] pos) (tD T W f) := pe_one h
theorem e_and (ha : PE X a (tD T W f)) (hb : PE X (.BoolOp .And (b :: rest) pos) (tD T W g)) : PE X (.BoolOp .And (a :: b :: rest) pos) (tD T W (eAnd f g)) :=
  pe_imp (pe_and ha hb) fun σ H Q ⟨F, ρ, e, vw, hp⟩ => bind_d e vw hp fun d v F1 H1 g1 r1 hp1 => by
    cases r1 with
    | bl b =>
      refine ⟨b, rfl, ?_⟩
      cases b with
      | true => exact ⟨F1, ρ, g1.s, vw.mono g1.f, hp1⟩
      | false => exact post_sh g1.s (.bl false) hp1
    | _ => exact hp1.elim
theorem e_or (ha : PE X a (tD T W f)) (hb : PE X (.BoolOp .Or (b :: rest) pos) (tD T W g)) : PE X (.BoolOp .Or (a :: b :: rest) pos) (tD T W (eOr f g)) :=
  pe_imp (pe_or ha hb) fun σ H Q ⟨F, ρ, e, vw, hp⟩ => bind_d e vw hp fun d v F1 H1 g1 r1 hp1 => by
    cases r1 with
    | bl b =>
      refine ⟨b, rfl, ?_⟩
      cases b with
      | false => exact ⟨F1, ρ, g1.s, vw.mono g1.f, hp1⟩
      | true => exact post_sh g1.s (.bl true) hp1
    | _ => exact hp1.elim
theorem e_not (ha : PE X a (tD T W f)) : PE X (.UnaryOp .Not a pos) (tD T W (eNot f)) :=
  pe_imp (pe_not ha) fun σ H Q ⟨F, ρ, e, vw, hp⟩ => bind_d e vw hp fun d v F1 H1 g1 r1 hp1 => by
    cases r1 with
    | bl b => exact ⟨b, rfl, post_sh g1.s (.bl (!b)) hp1⟩
    | _ => exact hp1.elim
end

/-! ### argument lists, displays -/
def aNil : Rho → Rs (List Da) := fun _ => .ok []
def aCons (f : Sem1) (fs : Rho → Rs (List Da)) : Rho → Rs (List Da) := fun ρ => (dat (f ρ)).bind fun d => (fs ρ).bind fun ds => .ok (d :: ds)
def eLst (fs : Rho → Rs (List Da)) : Sem1 := fun ρ => (fs ρ).bind fun ds => if ds.length ≤ 1000 then .ok (.ow ds) else .no
def eTup (fs : Rho → Rs (List Da)) : Sem1 := fun ρ => (fs ρ).bind fun ds => if ds.length ≤ 1000 then .ok (.sh (.tup ds)) else .no
theorem small_size {n : Nat} (h : n ≤ 1000) : n ≤ sizeLine := Nat.le_trans h (by decide)
theorem big_size {n : Nat} (h : n ≤ 1000000) : n ≤ sizeLine := Nat.le_trans h (by decide)
section
variable {X : Cx} {T : Tx} {W : WX} {e : Expr} {es : List Expr} {f : Sem1} {fs : Rho → Rs (List Da)} {pos : Pos}
theorem a_nil : PA X [] (tA T W aNil) := pa_imp pa_nil fun σ H Q ⟨F, ρ, e, vw, hp⟩ => hp [] F H (Grow.refl e) .nil
theorem a_cons (he : PE X e (tD T W f)) (hr : PA X es (tA T W fs)) (hs : starEach (e :: es) X.env = (false, eval e X.env) :: starEach es X.env := by rfl) : PA X (e :: es) (tA T W (aCons f fs)) :=
  pa_imp (pa_cons he hr hs) fun σ H Q ⟨F, ρ, e, vw, hp⟩ => bindA_d e vw hp fun d v F1 H1 g1 r1 hp1 => bindA_a g1.s (vw.mono g1.f) hp1 fun ds vs F2 H2 g2 r2 hp2 =>
    hp2 (v :: vs) F2 H2 (Grow.refl g2.s) (.cons (r1.mono g2.f) r2)
/-- a new list that holds the things vs -/
theorem new_ow {σ : St} {F H : Hp} {Q : VK} {vs : List V} {ds : List Da} {p : Addr} (e : Ex F H) (r : RepAll T F vs ds) (hp : Post T W σ F H Q (.ok (.ow ds))) (hn : H p = none) : Q (.ref p) (upd H p (.lst vs)) :=
  hp (.ref p) F _ (Grow.own e hn) ⟨p, vs, rfl, hn, e.back hn, upd_same, r⟩
theorem new_tup {σ : St} {F H : Hp} {Q : VK} {vs : List V} {ds : List Da} {p : Addr} (e : Ex F H) (r : RepAll T F vs ds) (hp : Post T W σ F H Q (.ok (.sh (.tup ds)))) (hn : H p = none) : Q (.ref p) (upd H p (.tup vs)) :=
  hp (.ref p) _ _ (Grow.new e hn) (.tup (SqT.of upd_same) (r.mono (Ex.new (e.back hn))))
theorem e_lst (h : PA X es (tA T W fs)) : PE X (.List es pos) (tD T W (eLst fs)) :=
  pe_imp (pe_lst h) fun σ H Q ⟨F, ρ, e, vw, hp⟩ => bind_a e vw hp fun ds vs F1 H1 g1 r1 hp1 => by
    by_cases hz : ds.length ≤ 1000
    · rw [if_pos hz] at hp1
      exact ⟨by rw [r1.length]; exact small_size hz, fun p hn => new_ow g1.s r1 hp1 hn⟩
    · rw [if_neg hz] at hp1; exact hp1.elim
theorem e_tup {x1 : Nat} (h : PA X es (tA T W fs)) : PE X (.Tuple es x1 pos) (tD T W (eTup fs)) :=
  pe_imp (pe_tup h) fun σ H Q ⟨F, ρ, e, vw, hp⟩ => bind_a e vw hp fun ds vs F1 H1 g1 r1 hp1 => by
    by_cases hz : ds.length ≤ 1000
    · rw [if_pos hz] at hp1
      exact ⟨by rw [r1.length]; exact small_size hz, fun p hn => new_tup g1.s r1 hp1 hn⟩
    · rw [if_neg hz] at hp1; exact hp1.elim
end

/-! ### built-in calls: k by the arguments -/
def eCall (k : List Da → Option Sl) (fs : Rho → Rs (List Da)) : Sem1 := fun ρ => (fs ρ).bind fun ds => ofO (k ds)
section
variable {X : Cx} {T : Tx} {W : WX} {e : Expr} {es : List Expr} {fs : Rho → Rs (List Da)} {pos p : Pos} {x : Str} {r : List V → Hp → VK → Prop} {k : List Da → Option Sl}
theorem call_core (hr : RDA T r k) : ∀ σ H Q, tD T W (eCall k fs) σ H Q → tCB r (tA T W fs) σ H Q := fun σ H Q ⟨F, ρ, e, vw, hp⟩ =>
  bind_a e vw hp fun ds vs F1 H1 g1 r1 hp1 => by
    cases hk : k ds with
    | none => rw [hk] at hp1; exact hp1.elim
    | some s => rw [hk] at hp1; exact hr F1 H1 vs ds s Q g1.s r1 hk hp1
theorem e_cb {id : String} (hr : RDA T r k) (hc : CallR X (.builtin id) r) (hg : Gl X x) (hm : X.mg x = none) (hv : bootBuiltins x = some (.builtin id)) (ha : PA X (e :: es) (tA T W fs)) (hn : x ≠ "__name__" := by decide)
    (hdb : (x == ("__debug__" : Str)) = false := by decide) (he : starEach (e :: es) X.env = (false, eval e X.env) :: starEach es X.env := by rfl) (hpl : (backTo pos (starEach es X.env)).any (·.1) = false := by rfl) :
    PE X (.Call (.Name x p) (e :: es) [] pos) (tD T W (eCall k fs)) := pe_imp (pe_callB hc hg hm hv ha hn hdb he hpl) (call_core hr)
theorem e_ct {id : String} (hr : RDA T r k) (hc : CallR X (.type id) r) (hg : Gl X x) (hm : X.mg x = none) (hv : bootBuiltins x = some (.type id)) (ha : PA X (e :: es) (tA T W fs)) (hn : x ≠ "__name__" := by decide)
    (hdb : (x == ("__debug__" : Str)) = false := by decide) (he : starEach (e :: es) X.env = (false, eval e X.env) :: starEach es X.env := by rfl) (hpl : (backTo pos (starEach es X.env)).any (·.1) = false := by rfl) :
    PE X (.Call (.Name x p) (e :: es) [] pos) (tD T W (eCall k fs)) := pe_imp (pe_callTy hc hg hm hv ha hn hdb he hpl) (call_core hr)
end
end G6

namespace G6
open PySem PySem.Spec PyProof.Rows L2

/-! ### == as data -/
def eqL {α β : Type} (q : α → β → Bool) : List α → List β → Bool
  | [], [] => true
  | x :: xs, y :: ys => q x y && eqL q xs ys
  | _, _ => false
def fits : Nat → Da → Bool
  | _, .non => true
  | _, .bl _ => true
  | _, .int _ => true
  | _, .str s => PyData.strOk s
  | n + 1, .lst xs => xs.all (fits n)
  | n + 1, .tup xs => xs.all (fits n)
  | _, _ => false
def eqF : Nat → Da → Da → Bool
  | _, .non, .non => true
  | _, .bl a, .bl b => a == b
  | _, .bl a, .int j => (if a then 1 else 0) == j
  | _, .int i, .bl b => i == (if b then 1 else 0)
  | _, .int i, .int j => i == j
  | _, .str x, .str y => x == y
  | n + 1, .lst xs, .lst ys => eqL (eqF n) xs ys
  | n + 1, .tup xs, .tup ys => eqL (eqF n) xs ys
  | _, _, _ => false
/-- the script as a list -/
def nrm : Da → Da
  | .scr ns => .lst (ns.map .int)
  | d => d
mutual
def Da.py : Da → PyData
  | .non => .none
  | .bl b => .bool b
  | .int i => .int i
  | .str s => .str s
  | .lst xs => .list (pyAll xs)
  | .tup xs => .tuple (pyAll xs)
  | .scr _ => .none
  | .emp => .none
  | .even _ => .none
  | .unl _ _ => .none
  | .kt _ => .none
  | .err => .none
def pyAll : List Da → List PyData
  | [] => []
  | d :: ds => d.py :: pyAll ds
end
theorem pyAll_map : ∀ xs : List Da, pyAll xs = xs.map Da.py
  | [] => rfl
  | d :: ds => by rw [pyAll, pyAll_map ds]; rfl
section
variable {T : Tx} {H : Hp}
theorem dp_ints {K : PySem.W.Frag} : ∀ ns : List Int, DpAll K H (ns.map V.int) (pyAll (ns.map Da.int))
  | [] => .nil
  | n :: ns => .cons (.int n) (dp_ints ns)
theorem Rep.dpN : ∀ (n : Nat) {v : V} {d : Da}, Rep T H v d → fits n d = true → Dp T.K H v d.py
  | n, _, _, .non, _ => .non
  | n, _, _, .bl b, _ => .bl b
  | n, _, _, .int i, _ => .int i
  | n, _, _, .str s, _ => .str s
  | 0, _, _, .lst _ _, h => by simp [fits] at h
  | 0, _, _, .tup _ _, h => by simp [fits] at h
  | n + 1, _, _, .lst (ds := ds) e r, h => by
    simp only [fits] at h
    exact .lst (SqL.of e) (go n ds r h)
  | n + 1, _, _, .tup (ds := ds) e r, h => by
    simp only [fits] at h
    exact .tup e (go n ds r h)
  | n, _, _, .scr e, h => by cases n <;> simp [fits] at h
  | n, _, _, .emp _, h => by cases n <;> simp [fits] at h
  | n, _, _, .even _ _, h => by cases n <;> simp [fits] at h
  | n, _, _, .unl _ _ _, h => by cases n <;> simp [fits] at h
  | n, _, _, .kt _ _ _ _ _, h => by cases n <;> simp [fits] at h
  | n, _, _, .err _, h => by cases n <;> simp [fits] at h
where go (n : Nat) : ∀ (ds : List Da) {vs : List V}, RepAll T H vs ds → ds.all (fits n) = true → DpAll T.K H vs (pyAll ds)
  | [], _, .nil, _ => .nil
  | d :: ds, _, .cons r t, h => by
    rw [List.all_cons, Bool.and_eq_true] at h
    exact .cons (Rep.dpN n r h.1) (go n ds t h.2)
theorem Rep.dp {v : V} {d : Da} (r : Rep T H v d) (h : fits 8 (nrm d) = true) : Dp T.K H v (nrm d).py := by
  cases r with
  | scr e => exact .lst e (dp_ints _)
  | non => exact Rep.dpN (T := T) 8 .non h
  | bl b => exact Rep.dpN (T := T) 8 (.bl b) h
  | int i => exact Rep.dpN (T := T) 8 (.int i) h
  | str s => exact Rep.dpN (T := T) 8 (.str s) h
  | lst e r => exact Rep.dpN 8 (.lst e r) h
  | tup e r => exact Rep.dpN 8 (.tup e r) h
  | emp e => exact Rep.dpN 8 (.emp e) h
  | even e r => exact Rep.dpN 8 (.even e r) h
  | unl e r q => exact Rep.dpN 8 (.unl e r q) h
  | kt e1 e2 e3 e r => exact Rep.dpN 8 (.kt e1 e2 e3 e r) h
  | err e => exact Rep.dpN 8 (.err e) h
mutual
theorem fits_lay : ∀ (n : Nat) (d : Da), fits n d = true → d.py.canLay0 = true ∧ d.py.depth ≤ n + 2
  | n, .non, _ => by simp [Da.py, PyData.canLay0, PyData.depth]
  | n, .bl b, _ => by simp [Da.py, PyData.canLay0, PyData.depth]
  | n, .int i, _ => by simp [Da.py, PyData.canLay0, PyData.depth]
  | n, .str s, h => by
    have h' : PyData.strOk s = true := by simpa [fits] using h
    simp [Da.py, PyData.canLay0, PyData.depth, h']
  | 0, .lst _, h => by simp [fits] at h
  | 0, .tup _, h => by simp [fits] at h
  | n + 1, .lst xs, h => by
    have h' : xs.all (fits n) = true := by simpa [fits] using h
    obtain ⟨h1, h2⟩ := fits_lays n xs h'
    simp only [Da.py, PyData.canLay0, PyData.depth]
    exact ⟨h1, by omega⟩
  | n + 1, .tup xs, h => by
    have h' : xs.all (fits n) = true := by simpa [fits] using h
    obtain ⟨h1, h2⟩ := fits_lays n xs h'
    simp only [Da.py, PyData.canLay0, PyData.depth]
    exact ⟨h1, by omega⟩
  | n, .scr _, h => by cases n <;> simp [fits] at h
  | n, .emp, h => by cases n <;> simp [fits] at h
  | n, .even _, h => by cases n <;> simp [fits] at h
  | n, .unl _ _, h => by cases n <;> simp [fits] at h
  | n, .kt _, h => by cases n <;> simp [fits] at h
  | n, .err, h => by cases n <;> simp [fits] at h
theorem fits_lays : ∀ (n : Nat) (ds : List Da), ds.all (fits n) = true → PyData.canLayAll0 (pyAll ds) = true ∧ PyData.depthAll (pyAll ds) ≤ n + 2
  | n, [], _ => by simp [pyAll, PyData.canLayAll0, PyData.depthAll]
  | n, d :: ds, h => by
    rw [List.all_cons, Bool.and_eq_true] at h
    obtain ⟨h1, h2⟩ := fits_lay n d h.1
    obtain ⟨h3, h4⟩ := fits_lays n ds h.2
    simp only [pyAll, PyData.canLayAll0, PyData.depthAll, h1, h3]
    exact ⟨rfl, by omega⟩
end
theorem fits_shaped {d : Da} (h : fits 8 d = true) : SeqAt.shaped d.py = true := by
  obtain ⟨h1, h2⟩ := fits_lay 8 d h
  unfold SeqAt.shaped
  rw [h1, Bool.true_and]
  exact decide_eq_true (by omega)
end
mutual
theorem eqF_eqv : ∀ (n : Nat) (d e : Da), fits n d = true → fits n e = true → eqF n d e = PyData.eqv d.py e.py
  | 0, d, e, h, h' => by
    cases d <;> cases e <;> first | (simp [fits] at h; done) | (simp [fits] at h'; done) | simp [eqF, Da.py, PyData.eqv]
  | n + 1, .lst xs, .lst ys, h, h' => by
    simp only [fits] at h h'
    simp only [eqF, Da.py, PyData.eqv]
    exact eqF_eqvs n xs ys h h'
  | n + 1, .tup xs, .tup ys, h, h' => by
    simp only [fits] at h h'
    simp only [eqF, Da.py, PyData.eqv]
    exact eqF_eqvs n xs ys h h'
  | n + 1, .non, e, h, h' => by cases e <;> first | (simp [fits] at h'; done) | simp [eqF, Da.py, PyData.eqv]
  | n + 1, .bl _, e, h, h' => by cases e <;> first | (simp [fits] at h'; done) | simp [eqF, Da.py, PyData.eqv]
  | n + 1, .int _, e, h, h' => by cases e <;> first | (simp [fits] at h'; done) | simp [eqF, Da.py, PyData.eqv]
  | n + 1, .str _, e, h, h' => by cases e <;> first | (simp [fits] at h'; done) | simp [eqF, Da.py, PyData.eqv]
  | n + 1, .emp, e, h, h' => by simp [fits] at h
  | n + 1, .scr _, e, h, h' => by simp [fits] at h
  | n + 1, .even _, e, h, h' => by simp [fits] at h
  | n + 1, .unl _ _, e, h, h' => by simp [fits] at h
  | n + 1, .kt _, e, h, h' => by simp [fits] at h
  | n + 1, .err, e, h, h' => by simp [fits] at h
  | n + 1, .lst _, .non, h, h' => by simp [eqF, Da.py, PyData.eqv]
  | n + 1, .lst _, .bl _, h, h' => by simp [eqF, Da.py, PyData.eqv]
  | n + 1, .lst _, .int _, h, h' => by simp [eqF, Da.py, PyData.eqv]
  | n + 1, .lst _, .str _, h, h' => by simp [eqF, Da.py, PyData.eqv]
  | n + 1, .lst _, .tup _, h, h' => by simp [eqF, Da.py, PyData.eqv]
  | n + 1, .lst _, .scr _, h, h' => by simp [fits] at h'
  | n + 1, .lst _, .emp, h, h' => by simp [fits] at h'
  | n + 1, .lst _, .even _, h, h' => by simp [fits] at h'
  | n + 1, .lst _, .unl _ _, h, h' => by simp [fits] at h'
  | n + 1, .lst _, .kt _, h, h' => by simp [fits] at h'
  | n + 1, .lst _, .err, h, h' => by simp [fits] at h'
  | n + 1, .tup _, .non, h, h' => by simp [eqF, Da.py, PyData.eqv]
  | n + 1, .tup _, .bl _, h, h' => by simp [eqF, Da.py, PyData.eqv]
  | n + 1, .tup _, .int _, h, h' => by simp [eqF, Da.py, PyData.eqv]
  | n + 1, .tup _, .str _, h, h' => by simp [eqF, Da.py, PyData.eqv]
  | n + 1, .tup _, .lst _, h, h' => by simp [eqF, Da.py, PyData.eqv]
  | n + 1, .tup _, .scr _, h, h' => by simp [fits] at h'
  | n + 1, .tup _, .emp, h, h' => by simp [fits] at h'
  | n + 1, .tup _, .even _, h, h' => by simp [fits] at h'
  | n + 1, .tup _, .unl _ _, h, h' => by simp [fits] at h'
  | n + 1, .tup _, .kt _, h, h' => by simp [fits] at h'
  | n + 1, .tup _, .err, h, h' => by simp [fits] at h'
theorem eqF_eqvs : ∀ (n : Nat) (ds es : List Da), ds.all (fits n) = true → es.all (fits n) = true → eqL (eqF n) ds es = PyData.eqvAll (pyAll ds) (pyAll es)
  | n, [], [], _, _ => by simp [eqL, pyAll, PyData.eqvAll]
  | n, [], _ :: _, _, _ => by simp [eqL, pyAll, PyData.eqvAll]
  | n, _ :: _, [], _, _ => by simp [eqL, pyAll, PyData.eqvAll]
  | n, d :: ds, e :: es, h, h' => by
    rw [List.all_cons, Bool.and_eq_true] at h h'
    simp only [eqL, pyAll, PyData.eqvAll]
    rw [eqF_eqvs n ds es h.2 h'.2, eqF_eqv n d e h.1 h'.1]
end
end G6

namespace G6
open PySem PySem.Spec PyProof.Rows L2
section
variable {X : Cx} {T : Tx}
/-! ### + - * // % ** -/
def kAdd : Da → Da → Option Sl
  | .int i, .int j => some (.sh (.int (i + j)))
  | .lst xs, .lst ys => if xs.length + ys.length ≤ 1000000 then some (.ow (xs ++ ys)) else none
  | _, _ => none
def rAddA : R2 := fun x y H Q => rI0 (fun i j => .int (i + j)) x y H Q ∨ rCat x y H Q
theorem op_addA : OpR X (binaryOp .Add) rAddA := op_add.or op_cat
theorem rd_add : RD2 T rAddA kAdd := fun F H x y d e s Q ex rx ry hk q => by
  cases rx with
  | int i => cases ry with
    | int j => cases hk; exact .inl ⟨i, j, rfl, rfl, q _ F H (Grow.refl ex) (.int _)⟩
    | _ => cases hk
  | lst h1 r1 => cases ry with
    | lst h2 r2 =>
      simp only [kAdd] at hk
      split at hk
      · cases hk
        rename_i hz
        refine .inr ⟨_, _, _, _, rfl, rfl, ex _ _ h1, ex _ _ h2, by rw [r1.length, r2.length]; exact big_size hz, fun p hn => ?_⟩
        exact q _ F _ (Grow.own ex hn) ⟨p, _, rfl, hn, ex.back hn, upd_same, r1.append r2⟩
      · cases hk
    | _ => cases hk
  | _ => cases hk
def kSub : Da → Da → Option Sl := kI (fun _ _ => true) fun i j => .int (i - j)
theorem rd_sub : RD2 T (rI0 fun i j => .int (i - j)) kSub := rd_I0 fun i j H => .int _
def mulOk (i j : Int) : Bool := decide (i.natAbs < 2 ^ 64) || decide (j.natAbs < 2 ^ 64) || decide (i.natAbs.log2 + j.natAbs.log2 < 100000000)
theorem mulOk.ok {i j : Int} (h : mulOk i j = true) : IntMulOk i j := by
  unfold mulOk at h
  simp only [Bool.or_eq_true, decide_eq_true_eq] at h
  rcases h with (h | h) | h
  · exact IntMulOk.of_left (intBits_le_64 (by omega) (by omega))
  · exact IntMulOk.of_right (intBits_le_64 (by omega) (by omega))
  · have b : ∀ x : Int, Builtin.Int.intBits x ≤ x.natAbs.log2 + 1 := fun x => by
      unfold Builtin.Int.intBits
      split <;> omega
    have h1 := b i
    have h2 := b j
    have e : bitsLine = 134217728 := by decide
    unfold IntMulOk
    intro z
    rw [Bool.and_eq_true] at z
    have z2 := z.2
    unfold Builtin.Int.intTooBig at z2
    have z3 := of_decide_eq_true z2
    rw [e] at z3
    omega
def kMul : Da → Da → Option Sl := kI mulOk fun i j => .int (i * j)
theorem op_mulA : OpR X (binaryOp .Mult) (rI (fun i j => IntMulOk i j) fun i j => .int (i * j)) := opI fun _ _ _ _ _ _ _ hc q => mul_int q hc
theorem rd_mul : RD2 T (rI (fun i j => IntMulOk i j) fun i j => .int (i * j)) kMul := rd_I (fun i j h => mulOk.ok h) fun i j H _ => .int _
def kRep : Da → Da → Option Sl
  | .lst xs, .int k => if 0 ≤ k ∧ k ≤ 1000 ∧ xs.length ≤ 1000 then some (.ow (List.replicate k.toNat xs).flatten) else none
  | _, _ => none
theorem RepAll.rep {H : Hp} {vs : List V} {ds : List Da} (h : RepAll T H vs ds) : ∀ k : Nat, RepAll T H (List.replicate k vs).flatten (List.replicate k ds).flatten
  | 0 => .nil
  | k + 1 => by
    rw [List.replicate_succ, List.replicate_succ, List.flatten_cons, List.flatten_cons]
    exact h.append (RepAll.rep h k)
theorem rd_rep : RD2 T rRep kRep := fun F H x y d e s Q ex rx ry hk q => by
  cases rx with
  | lst h1 r1 => cases ry with
    | int k =>
      simp only [kRep] at hk
      split at hk
      · cases hk
        rename_i hz
        obtain ⟨z1, z2, z3⟩ := hz
        refine ⟨_, k, _, rfl, rfl, ex _ _ h1, by omega, by omega, ?_, fun p hn => ?_⟩
        · rw [r1.length]
          refine big_size ?_
          have : k.toNat ≤ 1000 := by omega
          calc _ ≤ 1000 * 1000 := Nat.mul_le_mul z3 this
            _ = 1000000 := by decide
        · exact q _ F _ (Grow.own ex hn) ⟨p, _, rfl, hn, ex.back hn, upd_same, r1.rep _⟩
      · cases hk
    | _ => cases hk
  | _ => cases hk
def kMod : Da → Da → Option Sl := kI (fun _ j => decide (0 < j)) fun i j => .int (i % j)
theorem rd_mod : RD2 T (rI (fun _ j => 0 < j) fun i j => .int (i % j)) kMod := rd_I (fun _ _ h => of_decide_eq_true h) fun i j H _ => .int _
def divOk (_ j : Int) : Bool := decide (0 < j) && decide (j.natAbs.log2 < 9000)
def kDiv : Da → Da → Option Sl := kI divOk fun i j => .int (i / j)
theorem divOk.ok {i j : Int} (h : divOk i j = true) : CDivW i j := by
  unfold divOk at h
  simp only [Bool.and_eq_true, decide_eq_true_eq] at h
  exact h
theorem rd_div : RD2 T (rI CDivW fun i j => .int (i / j)) kDiv := rd_I (fun _ _ h => divOk.ok h) fun i j H _ => .int _
def powOk (i j : Int) : Bool := decide (0 ≤ j) && decide (j ≤ 1000000) && decide (i.natAbs < 2 ^ 64)
def kPow : Da → Da → Option Sl := kI powOk fun i j => .int (i ^ j.toNat)
theorem rd_pow : RD2 T (rI CPow fun i j => .int (i ^ j.toNat)) kPow := rd_I (fun _ _ h => by
  unfold powOk at h
  simp only [Bool.and_eq_true, decide_eq_true_eq] at h
  exact ⟨h.1.1, h.1.2, h.2⟩) fun i j H _ => .int _
def kNeg : Da → Option Sl
  | .int i => some (.sh (.int (-i)))
  | _ => none
theorem rd_neg : RD1 T (rU fun i => .int (-i)) kNeg := fun F H x d s Q ex rx hk q => by
  cases rx with
  | int i => cases hk; exact ⟨i, rfl, q _ F H (Grow.refl ex) (.int _)⟩
  | _ => cases hk
/-! ### comparisons -/
def kLt : Da → Da → Option Sl := kI (fun _ _ => true) fun i j => .bl (decide (i < j))
def kLe : Da → Da → Option Sl := kI (fun _ _ => true) fun i j => .bl (decide (i ≤ j))
def kGt : Da → Da → Option Sl := kI (fun _ _ => true) fun i j => .bl (decide (j < i))
def kGe : Da → Da → Option Sl := kI (fun _ _ => true) fun i j => .bl (decide (j ≤ i))
theorem rd_lt : RD2 T (rI0 fun i j => .bl (decide (i < j))) kLt := rd_I0 fun i j H => .bl _
theorem rd_le : RD2 T (rI0 fun i j => .bl (decide (i ≤ j))) kLe := rd_I0 fun i j H => .bl _
theorem rd_gt : RD2 T (rI0 fun i j => .bl (decide (j < i))) kGt := rd_I0 fun i j H => .bl _
theorem rd_ge : RD2 T (rI0 fun i j => .bl (decide (j ≤ i))) kGe := rd_I0 fun i j H => .bl _
def kEq (d e : Da) : Option Sl := if (fits 8 (nrm d) && fits 8 (nrm e)) = true then some (.sh (.bl (eqF 8 (nrm d) (nrm e)))) else none
def kNe (d e : Da) : Option Sl := if (fits 8 (nrm d) && fits 8 (nrm e)) = true then some (.sh (.bl (!eqF 8 (nrm d) (nrm e)))) else none
theorem Dp.mono {K : PySem.W.Frag} {H H' : Hp} (e : Ex H H') : ∀ {v : V} {d : PyData}, Dp K H v d → Dp K H' v d := by
  intro v d h
  exact Dp.rec (motive_1 := fun v d _ => Dp K H' v d) (motive_2 := fun v d _ => DpAll K H' v d) .non .bl .int .str (fun h _ ih => .lst (ex_l e h) ih) (fun h _ ih => .tup (ex_t e h) ih) .nil (fun _ _ i1 i2 => .cons i1 i2) h
theorem rd_eq : RD2 T (rEqD T.K) kEq := fun F H x y d e s Q ex rx ry hk q => by
  unfold kEq at hk
  split at hk
  · rename_i hz
    rw [Bool.and_eq_true] at hz
    cases hk
    refine ⟨_, _, Dp.mono ex (rx.dp hz.1), Dp.mono ex (ry.dp hz.2), fits_shaped hz.1, fits_shaped hz.2, ?_⟩
    rw [← eqF_eqv 8 _ _ hz.1 hz.2]
    exact q _ F H (Grow.refl ex) (.bl _)
  · cases hk
theorem rd_ne : RD2 T (rNeD T.K) kNe := fun F H x y d e s Q ex rx ry hk q => by
  unfold kNe at hk
  split at hk
  · rename_i hz
    rw [Bool.and_eq_true] at hz
    cases hk
    refine ⟨_, _, Dp.mono ex (rx.dp hz.1), Dp.mono ex (ry.dp hz.2), fits_shaped hz.1, fits_shaped hz.2, ?_⟩
    rw [← eqF_eqv 8 _ _ hz.1 hz.2]
    exact q _ F H (Grow.refl ex) (.bl _)
  · cases hk
/-- is True, is not True -/
def kIsB : Da → Da → Option Sl
  | .bl a, .bl b => some (.sh (.bl (decide (a = b))))
  | _, _ => none
def kNotB : Da → Da → Option Sl
  | .bl a, .bl b => some (.sh (.bl (!decide (a = b))))
  | _, _ => none
theorem rd_isB : RD2 T rIsB kIsB := fun F H x y d e s Q ex rx ry hk q => by
  cases rx with
  | bl a => cases ry with
    | bl b => cases hk; exact ⟨a, b, rfl, rfl, q _ F H (Grow.refl ex) (.bl _)⟩
    | _ => cases hk
  | _ => cases hk
theorem rd_notB : RD2 T rNotB kNotB := fun F H x y d e s Q ex rx ry hk q => by
  cases rx with
  | bl a => cases ry with
    | bl b => cases hk; exact ⟨a, b, rfl, rfl, q _ F H (Grow.refl ex) (.bl _)⟩
    | _ => cases hk
  | _ => cases hk
/-! ### in, not in -/
def flatD : Da → Bool
  | .non => true
  | .bl _ => true
  | .int _ => true
  | .str _ => true
  | _ => false
def kInB (d e : Da) : Option Bool := match nrm e with
  | .lst ys => if (fits 8 (nrm d) && fits 8 (.lst ys)) = true then some (ys.any fun z => eqF 8 z (nrm d)) else none
  | .tup ys => if (flatD d && ys.all flatD) = true then some (ys.any fun z => eqF 8 z d) else none
  | _ => none
def kIn (d e : Da) : Option Sl := (kInB d e).map fun b => .sh (.bl b)
def kNotIn (d e : Da) : Option Sl := (kInB d e).map fun b => .sh (.bl (!b))
def rInA (K : PySem.W.Frag) : R2 := fun x y H Q => rInD K x y H Q ∨ rIn K false x y H Q
def rNotInA (K : PySem.W.Frag) : R2 := fun x y H Q => rNotInD K x y H Q ∨ rIn K true x y H Q
theorem op_inA (hu : X.A.units + 65 < cLine) : OpR X (compareOp .In) (rInA X.K) := (op_inD hu).or op_in_seq
theorem op_notInA (hu : X.A.units + 65 < cLine) : OpR X (compareOp .NotIn) (rNotInA X.K) := (op_notInD hu).or op_notIn_seq
theorem flat_v {H : Hp} {v : V} {d : Da} (r : Rep T H v d) (h : flatD d = true) : flatV v = true := by
  cases r <;> first | rfl | cases h
theorem flats_v {H : Hp} : ∀ {vs : List V} {ds : List Da}, RepAll T H vs ds → ds.all flatD = true → vs.all flatV = true
  | _, _, .nil, _ => rfl
  | _, _, .cons r t, h => by
    rw [List.all_cons, Bool.and_eq_true] at h
    rw [List.all_cons, flat_v r h.1, flats_v t h.2] <;> rfl
theorem eqV_eqF {H : Hp} {x y : V} {d e : Da} (rx : Rep T H x d) (ry : Rep T H y e) (hd : flatD d = true) (he : flatD e = true) : eqV x y = eqF 8 d e := by
  cases rx <;> first | (cases hd; done) | skip
  all_goals cases ry <;> first | (cases he; done) | rfl
theorem any_flat {H : Hp} {x : V} {d : Da} (rx : Rep T H x d) (hd : flatD d = true) : ∀ {vs : List V} {ds : List Da}, RepAll T H vs ds → ds.all flatD = true → inV x vs = ds.any fun z => eqF 8 z d
  | _, _, .nil, _ => rfl
  | _, _, .cons r t, h => by
    rw [List.all_cons, Bool.and_eq_true] at h
    have := any_flat rx hd t h.2
    unfold inV at this ⊢
    rw [List.any_cons, List.any_cons, this, eqV_eqF r rx h.1 hd]
theorem any_pys {d : Da} (hd : fits 8 d = true) : ∀ {ds : List Da}, ds.all (fits 7) = true → (pyAll ds).any (fun z => PyData.eqv z d.py) = ds.any fun z => eqF 8 z d
  | [], _ => rfl
  | x :: xs, h => by
    rw [List.all_cons, Bool.and_eq_true] at h
    have hx : fits 8 x = true := by
      have : ∀ (n : Nat) (y : Da), fits n y = true → fits (n + 1) y = true := by
        intro n
        induction n with
        | zero => intro y hy; cases y <;> first | exact hy | (simp [fits] at hy)
        | succ n ih =>
          intro y hy
          cases y with
          | lst xs =>
            simp only [fits] at hy ⊢
            rw [List.all_eq_true] at hy ⊢
            exact fun z hz => ih z (hy z hz)
          | tup xs =>
            simp only [fits] at hy ⊢
            rw [List.all_eq_true] at hy ⊢
            exact fun z hz => ih z (hy z hz)
          | _ => first | exact hy | (simp [fits] at hy)
      exact this 7 x h.1
    rw [pyAll, List.any_cons, List.any_cons, any_pys hd h.2, eqF_eqv 8 x d hx hd]
theorem in_core {F H : Hp} {x y : V} {d e : Da} {b : Bool} (ex : Ex F H) (rx : Rep T F x d) (ry : Rep T F y e) (hk : kInB d e = some b) :
    (∃ d' ds, Dp T.K H x d' ∧ Dp T.K H y (.list ds) ∧ SeqAt.shaped d' = true ∧ SeqAt.shaped (.list ds) = true ∧ (ds.any fun z => PyData.eqv z d') = b) ∨
    (∃ p xs, y = .ref p ∧ (SqL T.K H p xs ∨ SqT T.K H p xs) ∧ flatV x = true ∧ xs.all flatV = true ∧ inV x xs = b) := by
  have dl : ∀ ys, nrm e = .lst ys → kInB d e = some b → (∃ d' ds, Dp T.K H x d' ∧ Dp T.K H y (.list ds) ∧ SeqAt.shaped d' = true ∧ SeqAt.shaped (.list ds) = true ∧ (ds.any fun z => PyData.eqv z d') = b) := by
    intro ys he hk
    unfold kInB at hk
    rw [he] at hk
    dsimp only at hk
    split at hk
    · rename_i hz
      rw [Bool.and_eq_true] at hz
      cases hk
      have h2 := hz.2
      rw [← he] at h2
      have q := Dp.mono ex (ry.dp h2)
      rw [he] at q
      refine ⟨_, pyAll ys, Dp.mono ex (rx.dp hz.1), q, fits_shaped hz.1, ?_, ?_⟩
      · have := fits_shaped hz.2
        exact this
      · exact any_pys hz.1 (by have := hz.2; simpa [fits] using this)
    · cases hk
  cases ry with
  | lst h1 r1 => exact .inl (dl _ rfl hk)
  | scr h1 => exact .inl (dl _ rfl hk)
  | tup h1 r1 =>
    right
    simp only [kInB, nrm] at hk
    split at hk
    · rename_i hz
      rw [Bool.and_eq_true] at hz
      cases hk
      exact ⟨_, _, rfl, .inr (ex_t ex h1), flat_v rx hz.1, flats_v r1 hz.2, any_flat rx hz.1 r1 hz.2⟩
    · cases hk
  | _ => cases hk
theorem rd_in : RD2 T (rInA T.K) kIn := fun F H x y d e s Q ex rx ry hk q => by
  unfold kIn at hk
  cases hb : kInB d e with
  | none => rw [hb] at hk; cases hk
  | some b =>
    rw [hb] at hk; cases hk
    have q' := q _ F H (Grow.refl ex) (.bl b)
    rcases in_core ex rx ry hb with ⟨d', ds, h1, h2, h3, h4, h5⟩ | ⟨p, xs, h1, h2, h3, h4, h5⟩
    · exact .inl ⟨d', ds, h1, h2, h3, h4, by rw [h5]; exact q'⟩
    · exact .inr ⟨p, xs, h1, h2, h3, h4, by rw [h5]; exact q'⟩
theorem rd_notIn : RD2 T (rNotInA T.K) kNotIn := fun F H x y d e s Q ex rx ry hk q => by
  unfold kNotIn at hk
  cases hb : kInB d e with
  | none => rw [hb] at hk; cases hk
  | some b =>
    rw [hb] at hk; cases hk
    have q' := q _ F H (Grow.refl ex) (.bl (!b))
    rcases in_core ex rx ry hb with ⟨d', ds, h1, h2, h3, h4, h5⟩ | ⟨p, xs, h1, h2, h3, h4, h5⟩
    · exact .inl ⟨d', ds, h1, h2, h3, h4, by rw [h5]; exact q'⟩
    · exact .inr ⟨p, xs, h1, h2, h3, h4, by rw [h5]; exact q'⟩
/-! ### x[i] -/
def kIx (d e : Da) : Option Sl := match e with
  | .int i => (match asL d with
    | some xs => (atI xs i).map Sl.sh
    | none => (match d with
      | .tup xs => (atI xs i).map Sl.sh
      | .kt xs => (atI xs i).map Sl.sh
      | _ => none))
  | _ => none
def rIxA (K : PySem.W.Frag) : R2 := fun x y H Q => rIxL K x y H Q ∨ rIxT K x y H Q
theorem ix_all : IxR X (rIxA X.K) := ix_list.or ix_tup
theorem atI_rep {H : Hp} {vs : List V} {ds : List Da} {i : Int} {d : Da} (r : RepAll T H vs ds) (h : atI ds i = some d) : ∃ v, atI vs i = some v ∧ Rep T H v d := by
  unfold atI at h ⊢
  rw [r.length]
  cases hx : ixN ds.length i with
  | none => rw [hx] at h; cases h
  | some j =>
    rw [hx] at h
    exact r.get' h
theorem rd_ix : RD2 T (rIxA T.K) kIx := fun F H x y d e s Q ex rx ry hk q => by
  cases ry with
  | int i =>
    unfold kIx at hk
    dsimp only at hk
    cases hl : asL d with
    | some xs =>
      rw [hl] at hk
      dsimp only at hk
      cases ha : atI xs i with
      | none => rw [ha] at hk; cases hk
      | some z =>
        rw [ha] at hk; cases hk
        obtain ⟨a, vs, rfl, h1, h2⟩ := rx.list hl
        obtain ⟨v, h3, h4⟩ := atI_rep h2 ha
        exact .inl ⟨a, vs, i, v, rfl, rfl, ex_l ex h1, h3, q _ F H (Grow.refl ex) h4⟩
    | none =>
      rw [hl] at hk
      dsimp only at hk
      cases rx with
      | tup h1 r1 =>
        dsimp only at hk
        rename_i ds
        cases ha : atI ds i with
        | none => rw [ha] at hk; cases hk
        | some z =>
          rw [ha] at hk; cases hk
          obtain ⟨v, h3, h4⟩ := atI_rep r1 ha
          exact .inr ⟨_, _, i, v, rfl, rfl, ex_t ex h1, h3, q _ F H (Grow.refl ex) h4⟩
      | kt k1 k2 k3 h1 r1 =>
        dsimp only at hk
        rename_i ds
        cases ha : atI ds i with
        | none => rw [ha] at hk; cases hk
        | some z =>
          rw [ha] at hk; cases hk
          obtain ⟨v, h3, h4⟩ := atI_rep r1 ha
          exact .inr ⟨_, _, i, v, rfl, rfl, ex_t ex h1, h3, q _ F H (Grow.refl ex) h4⟩
      | _ => cases hk
  | _ => cases hk
/-! ### len, sum, all, any, list, sorted, divmod -/
def kLen : List Da → Option Sl
  | [d] => (match asL d with
    | some xs => some (.sh (.int xs.length))
    | none => (match d with
      | .tup xs => some (.sh (.int xs.length))
      | _ => none))
  | _ => none
def rLenA (K : PySem.W.Frag) : List V → Hp → VK → Prop := fun xs H Q => ∃ p ys, xs = [.ref p] ∧ (SqL K H p ys ∨ SqT K H p ys) ∧ Q (.int ys.length) H
theorem rd_len : RDA T (rLenA T.K) kLen := fun F H xs ds s Q ex r hk q => by
  cases r with
  | nil => cases hk
  | cons rx rr => cases rr with
    | cons _ _ => cases hk
    | nil =>
      rename_i v d
      unfold kLen at hk
      dsimp only at hk
      cases hl : asL d with
      | some ys =>
        rw [hl] at hk; cases hk
        obtain ⟨a, vs, rfl, h1, h2⟩ := rx.list hl
        exact ⟨a, vs, rfl, .inl (ex_l ex h1), by rw [h2.length]; exact q _ F H (Grow.refl ex) (.int _)⟩
      | none =>
        rw [hl] at hk
        cases rx with
        | tup h1 r1 => cases hk; exact ⟨_, _, rfl, .inr (ex_t ex h1), by rw [r1.length]; exact q _ F H (Grow.refl ex) (.int _)⟩
        | _ => cases hk
def asInts : List Da → Option (List Int)
  | [] => some []
  | .int i :: r => (asInts r).map (i :: ·)
  | _ => none
theorem asInts_map : ∀ {xs : List Da} {ns : List Int}, asInts xs = some ns → xs = ns.map .int
  | [], _, h => by cases h; rfl
  | .int i :: r, ns, h => by
    simp only [asInts] at h
    cases hr : asInts r with
    | none => rw [hr] at h; cases h
    | some ms => rw [hr] at h; cases h; rw [asInts_map hr]; rfl
  | .non :: _, _, h => by simp [asInts] at h
  | .bl _ :: _, _, h => by simp [asInts] at h
  | .str _ :: _, _, h => by simp [asInts] at h
  | .lst _ :: _, _, h => by simp [asInts] at h
  | .tup _ :: _, _, h => by simp [asInts] at h
  | .emp :: _, _, h => by simp [asInts] at h
  | .even _ :: _, _, h => by simp [asInts] at h
  | .unl _ _ :: _, _, h => by simp [asInts] at h
  | .scr _ :: _, _, h => by simp [asInts] at h
  | .kt _ :: _, _, h => by simp [asInts] at h
  | .err :: _, _, h => by simp [asInts] at h
theorem asInts_ints : ∀ ns : List Int, asInts (ns.map .int) = some ns
  | [] => rfl
  | n :: ns => by rw [List.map_cons, asInts, asInts_ints ns]; rfl
def asBls : List Da → Option (List Bool)
  | [] => some []
  | .bl i :: r => (asBls r).map (i :: ·)
  | _ => none
theorem asBls_map : ∀ {xs : List Da} {ns : List Bool}, asBls xs = some ns → xs = ns.map .bl
  | [], _, h => by cases h; rfl
  | .bl i :: r, ns, h => by
    simp only [asBls] at h
    cases hr : asBls r with
    | none => rw [hr] at h; cases h
    | some ms => rw [hr] at h; cases h; rw [asBls_map hr]; rfl
  | .non :: _, _, h => by simp [asBls] at h
  | .int _ :: _, _, h => by simp [asBls] at h
  | .str _ :: _, _, h => by simp [asBls] at h
  | .lst _ :: _, _, h => by simp [asBls] at h
  | .tup _ :: _, _, h => by simp [asBls] at h
  | .emp :: _, _, h => by simp [asBls] at h
  | .even _ :: _, _, h => by simp [asBls] at h
  | .unl _ _ :: _, _, h => by simp [asBls] at h
  | .scr _ :: _, _, h => by simp [asBls] at h
  | .kt _ :: _, _, h => by simp [asBls] at h
  | .err :: _, _, h => by simp [asBls] at h
theorem asBls_bls : ∀ ns : List Bool, asBls (ns.map .bl) = some ns
  | [] => rfl
  | n :: ns => by rw [List.map_cons, asBls, asBls_bls ns]; rfl
def ints1 (ds : List Da) : Option (List Int) := match ds with
  | [d] => (asL d).bind asInts
  | _ => none
def bls1 (ds : List Da) : Option (List Bool) := match ds with
  | [d] => (asL d).bind asBls
  | _ => none
theorem ints1_sq {F H : Hp} {xs : List V} {ds : List Da} {ns : List Int} (ex : Ex F H) (r : RepAll T F xs ds) (h : ints1 ds = some ns) : ∃ a, xs = [.ref a] ∧ SqL T.K H a (ns.map V.int) := by
  cases r with
  | nil => cases h
  | cons rx rr => cases rr with
    | cons _ _ => cases h
    | nil =>
      rename_i v d
      unfold ints1 at h
      dsimp only at h
      cases hl : asL d with
      | none => rw [hl] at h; cases h
      | some ys =>
        rw [hl] at h
        obtain ⟨a, vs, rfl, h1, h2⟩ := rx.list hl
        have e := asInts_map (xs := ys) (ns := ns) h
        subst e
        have e2 := h2.int_of
        subst e2
        exact ⟨a, rfl, ex_l ex h1⟩
theorem bls1_sq {F H : Hp} {xs : List V} {ds : List Da} {ns : List Bool} (ex : Ex F H) (r : RepAll T F xs ds) (h : bls1 ds = some ns) : ∃ a, xs = [.ref a] ∧ SqL T.K H a (ns.map V.bl) := by
  cases r with
  | nil => cases h
  | cons rx rr => cases rr with
    | cons _ _ => cases h
    | nil =>
      rename_i v d
      unfold bls1 at h
      dsimp only at h
      cases hl : asL d with
      | none => rw [hl] at h; cases h
      | some ys =>
        rw [hl] at h
        obtain ⟨a, vs, rfl, h1, h2⟩ := rx.list hl
        have e := asBls_map (xs := ys) (ns := ns) h
        subst e
        have e2 := h2.bl_of
        subst e2
        exact ⟨a, rfl, ex_l ex h1⟩
def kSum (ds : List Da) : Option Sl := (ints1 ds).map fun ns => .sh (.int ns.sum)
theorem rd_sum : RDA T (rSum T.K) kSum := fun F H xs ds s Q ex r hk q => by
  unfold kSum at hk
  cases h : ints1 ds with
  | none => rw [h] at hk; cases hk
  | some ns =>
    rw [h] at hk; cases hk
    obtain ⟨a, rfl, h1⟩ := ints1_sq ex r h
    exact ⟨a, ns, rfl, h1, q _ F H (Grow.refl ex) (.int _)⟩
def kAll (ds : List Da) : Option Sl := (bls1 ds).map fun ns => .sh (.bl (ns.all id))
theorem rd_all : RDA T (rAll T.K) kAll := fun F H xs ds s Q ex r hk q => by
  unfold kAll at hk
  cases h : bls1 ds with
  | none => rw [h] at hk; cases hk
  | some ns =>
    rw [h] at hk; cases hk
    obtain ⟨a, rfl, h1⟩ := bls1_sq ex r h
    exact ⟨a, ns, rfl, h1, q _ F H (Grow.refl ex) (.bl _)⟩
def kAny (ds : List Da) : Option Sl := (bls1 ds).map fun ns => .sh (.bl (ns.any id))
theorem rd_any : RDA T (rAny T.K) kAny := fun F H xs ds s Q ex r hk q => by
  unfold kAny at hk
  cases h : bls1 ds with
  | none => rw [h] at hk; cases hk
  | some ns =>
    rw [h] at hk; cases hk
    obtain ⟨a, rfl, h1⟩ := bls1_sq ex r h
    exact ⟨a, ns, rfl, h1, q _ F H (Grow.refl ex) (.bl _)⟩
def kList : List Da → Option Sl
  | [d] => (match asL d with
    | some xs => some (.ow xs)
    | none => none)
  | _ => none
def rListA (K : PySem.W.Frag) : List V → Hp → VK → Prop := fun xs H Q => ∃ p ys, xs = [.ref p] ∧ (SqL K H p ys ∨ SqT K H p ys) ∧ ∀ l, H l = none → Q (.ref l) (upd H l (.lst ys))
theorem rd_list : RDA T (rListA T.K) kList := fun F H xs ds s Q ex r hk q => by
  cases r with
  | nil => cases hk
  | cons rx rr => cases rr with
    | cons _ _ => cases hk
    | nil =>
      rename_i v d
      unfold kList at hk
      dsimp only at hk
      cases hl : asL d with
      | none => rw [hl] at hk; cases hk
      | some ys =>
        rw [hl] at hk; cases hk
        obtain ⟨a, vs, rfl, h1, h2⟩ := rx.list hl
        exact ⟨a, vs, rfl, .inl (ex_l ex h1), fun l hn => q _ F _ (Grow.own ex hn) ⟨l, vs, rfl, hn, ex.back hn, upd_same, h2⟩⟩
/-! sorted -/
def ins1 (x : Int) : List Int → List Int
  | [] => [x]
  | y :: ys => if x ≤ y then x :: y :: ys else y :: ins1 x ys
def isort : List Int → List Int
  | [] => []
  | x :: xs => ins1 x (isort xs)
theorem ins1_perm (x : Int) : ∀ xs : List Int, (ins1 x xs).Perm (x :: xs)
  | [] => .refl _
  | y :: ys => by
    unfold ins1
    split
    · exact .refl _
    · exact ((ins1_perm x ys).cons y).trans (.swap x y ys)
theorem isort_perm : ∀ xs : List Int, (isort xs).Perm xs
  | [] => .refl _
  | x :: xs => (ins1_perm x (isort xs)).trans ((isort_perm xs).cons x)
theorem ins1_sorted (x : Int) : ∀ {xs : List Int}, xs.Pairwise (· ≤ ·) → (ins1 x xs).Pairwise (· ≤ ·)
  | [], _ => List.pairwise_singleton _ _
  | y :: ys, h => by
    unfold ins1
    obtain ⟨h1, h2⟩ := List.pairwise_cons.mp h
    split
    · rename_i hx
      refine List.pairwise_cons.mpr ⟨fun z hz => ?_, h⟩
      rcases List.mem_cons.mp hz with e | hz
      · rw [e]; exact hx
      · exact Int.le_trans hx (h1 z hz)
    · rename_i hx
      refine List.pairwise_cons.mpr ⟨fun z hz => ?_, ins1_sorted x h2⟩
      have := (ins1_perm x ys).mem_iff.mp hz
      rcases List.mem_cons.mp this with e | hz'
      · rw [e]; omega
      · exact h1 z hz'
theorem isort_sorted : ∀ xs : List Int, (isort xs).Pairwise (· ≤ ·)
  | [] => .nil
  | x :: xs => ins1_sorted x (isort_sorted xs)
theorem sorted_unique : ∀ {xs ys : List Int}, xs.Perm ys → xs.Pairwise (· ≤ ·) → ys.Pairwise (· ≤ ·) → xs = ys
  | [], ys, p, _, _ => p.nil_eq.symm ▸ rfl
  | x :: xs, [], p, _, _ => by have := p.length_eq; simp at this
  | x :: xs, y :: ys, p, hx, hy => by
    obtain ⟨h1, h2⟩ := List.pairwise_cons.mp hx
    obtain ⟨h3, h4⟩ := List.pairwise_cons.mp hy
    have e : x = y := by
      have a1 : x ∈ y :: ys := p.mem_iff.mp List.mem_cons_self
      have a2 : y ∈ x :: xs := p.mem_iff.mpr List.mem_cons_self
      rcases List.mem_cons.mp a1 with e | a1
      · exact e
      · rcases List.mem_cons.mp a2 with e | a2
        · exact e.symm
        · have := h1 y a2
          have := h3 x a1
          omega
    subst e
    rw [sorted_unique (List.Perm.cons_inv p) h2 h4]
def kSorted (ds : List Da) : Option Sl := (ints1 ds).map fun ns => .ow ((isort ns).map .int)
theorem rd_sorted : RDA T (rSortedI T.K) kSorted := fun F H xs ds s Q ex r hk q => by
  unfold kSorted at hk
  cases h : ints1 ds with
  | none => rw [h] at hk; cases hk
  | some ns =>
    rw [h] at hk; cases hk
    obtain ⟨a, rfl, h1⟩ := ints1_sq ex r h
    refine ⟨a, ns, rfl, h1, fun ns' p pm sr hn => ?_⟩
    have e : ns' = isort ns := sorted_unique (pm.trans (isort_perm ns).symm) sr (isort_sorted ns)
    subst e
    exact q _ F _ (Grow.own ex hn) ⟨p, _, rfl, hn, ex.back hn, upd_same, RepAll.ints _⟩
def kDivmod : List Da → Option Sl
  | [.int i, .int j] => if divOk i j = true then some (.sh (.tup [.int (i / j), .int (i % j)])) else none
  | _ => none
def rDivmod : List V → Hp → VK → Prop := fun xs H Q => ∃ i j, xs = [.int i, .int j] ∧ CDivP i j ∧ ∀ p, H p = none → Q (.ref p) (upd H p (.tup [.int (i / j), .int (i % j)]))
theorem rd_divmod : RDA T rDivmod kDivmod := fun F H xs ds s Q ex r hk q => by
  cases r with
  | nil => cases hk
  | cons rx rr => cases rr with
    | nil => cases rx <;> cases hk
    | cons ry rz => cases rz with
      | cons _ _ => cases rx <;> first | (cases hk; done) | (cases ry <;> cases hk)
      | nil =>
        cases rx with
        | int i => cases ry with
          | int j =>
            simp only [kDivmod] at hk
            split at hk
            · rename_i hz
              cases hk
              have hw := divOk.ok hz
              refine ⟨i, j, rfl, ⟨hw.1, PyProof.noPylong_of_log2 hw.2⟩, fun p hn => ?_⟩
              exact q _ _ _ (Grow.new ex hn) (.tup (SqT.of upd_same) (.cons (.int _) (.cons (.int _) .nil)))
            · cases hk
          | _ => cases hk
        | _ => cases hk
end
end G6

namespace G6
open PySem PySem.Spec PyProof.Rows L2

/-! ### the slots of a def's body -/
section
variable (T : Tx)
def SlE (F H : Hp) (A : List Addr) (v : Option (Option V)) : Sl → Prop
  | .dead => A = []
  | .sh d => A = [] ∧ ∃ x, v = some (some x) ∧ Rep T F x d
  | .ow xs => ∃ p vs, A = [p] ∧ v = some (some (.ref p)) ∧ H p = some (.lst vs) ∧ RepAll T F vs xs
  | .ow2 xss => ∃ p as, A = p :: as ∧ v = some (some (.ref p)) ∧ H p = some (.lst (as.map V.ref)) ∧ Rows T F H as xss
structure EnvOk (F0 H0 F H : Hp) (σ : St) (ρ : Rho) : Prop where
  g : Grow F0 H0 F H
  len : σ.length = ρ.length
  ow : ∃ o : Nat → List Addr, (∀ i, (o i).Nodup) ∧ (∀ i j a, a ∈ o i → a ∈ o j → i = j) ∧ (∀ i a, a ∈ o i → F a = none ∧ H0 a = none ∧ ∃ u, H a = some u) ∧ ∀ i s, ρ[i]? = some s → SlE T F H (o i) σ[i]? s
end
section
variable {T : Tx} {F0 H0 F H F' H' : Hp} {σ : St} {ρ : Rho}
theorem Rows.some_ {F H : Hp} : ∀ {as : List Addr} {xss : List (List Da)}, Rows T F H as xss → ∀ a ∈ as, ∃ u, H a = some u
  | a :: as, xs :: xss, ⟨⟨vs, h, _⟩, t⟩, b, hb => by
    rcases List.mem_cons.mp hb with e | hb
    · subst e; exact ⟨_, h⟩
    · exact Rows.some_ t b hb
  | [], _, _, b, hb => by cases hb
  | _ :: _, [], h, _, _ => h.elim
theorem SlE.mono {A : List Addr} {v : Option (Option V)} (e : Ex F F') (k : ∀ a ∈ A, H' a = H a) : ∀ {s : Sl}, SlE T F H A v s → SlE T F' H' A v s
  | .dead, h => h
  | .sh d, ⟨h0, x, h1, h2⟩ => ⟨h0, x, h1, h2.mono e⟩
  | .ow xs, ⟨p, vs, h1, h2, h3, h4⟩ => ⟨p, vs, h1, h2, by rw [k p (by rw [h1]; exact List.mem_cons_self)]; exact h3, h4.mono e⟩
  | .ow2 xss, ⟨p, as, h1, h2, h3, h4⟩ => ⟨p, as, h1, h2, by rw [k p (by rw [h1]; exact List.mem_cons_self)]; exact h3, Rows.mono e (fun a ha => k a (by rw [h1]; exact List.mem_cons_of_mem _ ha)) h4⟩
/-- H grows, F grows by what is new -/
theorem EnvOk.ext (h : EnvOk T F0 H0 F H σ ρ) (g : Grow F H F' H') : EnvOk T F0 H0 F' H' σ ρ := by
  obtain ⟨o, h1, h2, h3, h4⟩ := h.ow
  have k : ∀ i a, a ∈ o i → H' a = H a := fun i a ha => by
    obtain ⟨_, _, u, hu⟩ := h3 i a ha
    rw [hu, g.h a u hu]
  refine ⟨h.g.trans g, h.len, o, h1, h2, fun i a ha => ?_, fun i s hs => (h4 i s hs).mono g.f (k i)⟩
  obtain ⟨q1, q2, u, hu⟩ := h3 i a ha
  refine ⟨?_, q2, u, g.h a u hu⟩
  cases z : F' a with
  | none => rfl
  | some x =>
    rcases g.n a x z with y | y
    · rw [q1] at y; cases y
    · rw [hu] at y; cases y
theorem EnvOk.grow (h : EnvOk T F0 H0 F H σ ρ) (e : Ex H H') : EnvOk T F0 H0 F H' σ ρ := h.ext ⟨Ex.refl F, e, h.g.s.trans e, fun _ _ q => .inl q⟩
/-- all slots, read at H -/
theorem EnvOk.view (h : EnvOk T F0 H0 F H σ ρ) : View T H σ ρ := by
  obtain ⟨o, h1, h2, h3, h4⟩ := h.ow
  refine ⟨h.len, fun i s d hs hv => ?_⟩
  have q := h4 i s hs
  cases s with
  | dead => cases hv
  | sh d' => cases hv; obtain ⟨_, x, q1, q2⟩ := q; exact ⟨x, q1, q2.mono h.g.s⟩
  | ow xs => cases hv; obtain ⟨p, vs, q1, q2, q3, q4⟩ := q; exact ⟨_, q2, .lst q3 (q4.mono h.g.s)⟩
  | ow2 xss => cases hv; obtain ⟨p, as, q1, q2, q3, q4⟩ := q; exact ⟨_, q2, .lst q3 (Rows.reps h.g.s (fun _ _ => rfl) q4)⟩
/-- the shared slots alone -/
def shO : Sl → Sl
  | .sh d => .sh d
  | _ => .dead
def Rho.shs (ρ : Rho) : Rho := List.map shO ρ
theorem EnvOk.viewF (h : EnvOk T F0 H0 F H σ ρ) : View T F σ (Rho.shs ρ) := by
  obtain ⟨o, h1, h2, h3, h4⟩ := h.ow
  refine ⟨by unfold Rho.shs; rw [List.length_map]; exact h.len, fun i s d hs hv => ?_⟩
  unfold Rho.shs at hs
  rw [List.getElem?_map] at hs
  cases hr : ρ[i]? with
  | none => rw [hr] at hs; cases hs
  | some s' =>
    rw [hr] at hs
    cases hs
    have q := h4 i s' hr
    cases s' with
    | sh d' => cases hv; obtain ⟨_, x, q1, q2⟩ := q; exact ⟨x, q1, q2⟩
    | _ => cases hv
/-- a slot is set to a value that a reading gave -/
theorem EnvOk.put {v : V} {s : Sl} {i : Nat} (h : EnvOk T F0 H0 F H σ ρ) (g : Grow F H F' H') (r : SlV T H F' H' v s) : EnvOk T F0 H0 F' H' (σ.set i (some v)) (ρ.set i s) := by
  have h' := h.ext g
  obtain ⟨o, h1, h2, h3, h4⟩ := h'.ow
  obtain ⟨o0, _, _, p3, _⟩ := h.ow
  have key : ∃ A : List Addr, A.Nodup ∧ (∀ a ∈ A, F' a = none ∧ H a = none ∧ ∃ u, H' a = some u) ∧ SlE T F' H' A (some (some v)) s := by
    cases s with
    | dead => exact r.elim
    | sh d => exact ⟨[], List.Pairwise.nil, fun a ha => absurd ha List.not_mem_nil, rfl, v, rfl, r⟩
    | ow xs =>
      obtain ⟨p, vs, rfl, r2, r3, r4, r5⟩ := r
      exact ⟨[p], List.nodup_cons.mpr ⟨List.not_mem_nil, List.Pairwise.nil⟩, fun a ha => by cases List.mem_singleton.mp ha; exact ⟨r3, r2, _, r4⟩, p, vs, rfl, rfl, r4, r5⟩
    | ow2 xss =>
      obtain ⟨p, as, rfl, r2, r3, r4, r5, r6, r7⟩ := r
      refine ⟨p :: as, r5, fun a ha => ?_, p, as, rfl, rfl, r4, r7⟩
      rcases List.mem_cons.mp ha with e | ha
      · subst e; exact ⟨r3, r2, _, r4⟩
      · exact ⟨(r6 a ha).2, (r6 a ha).1, r7.some_ a ha⟩
  obtain ⟨A, a1, a2, a3⟩ := key
  -- the other slots' own things are older
  have old : ∃ o : Nat → List Addr, (∀ i, (o i).Nodup) ∧ (∀ i j a, a ∈ o i → a ∈ o j → i = j) ∧ (∀ i a, a ∈ o i → F' a = none ∧ H0 a = none ∧ (∃ u, H' a = some u) ∧ ∃ u, H a = some u) ∧ ∀ i s, ρ[i]? = some s → SlE T F' H' (o i) σ[i]? s := by
    obtain ⟨o, h1, h2, h3, h4⟩ := h.ow
    have k : ∀ i a, a ∈ o i → H' a = H a := fun i a ha => by
      obtain ⟨_, _, u, hu⟩ := h3 i a ha
      rw [hu, g.h a u hu]
    refine ⟨o, h1, h2, fun i a ha => ?_, fun i s hs => (h4 i s hs).mono g.f (k i)⟩
    obtain ⟨q1, q2, u, hu⟩ := h3 i a ha
    refine ⟨?_, q2, ⟨u, g.h a u hu⟩, u, hu⟩
    cases z : F' a with
    | none => rfl
    | some x =>
      rcases g.n a x z with y | y
      · rw [q1] at y; cases y
      · rw [hu] at y; cases y
  obtain ⟨o, h1, h2, h3, h4⟩ := old
  refine ⟨h'.g, by rw [List.length_set, List.length_set]; exact h.len, fun j => if j = i then A else o j, fun j => ?_, fun j l a ha hb => ?_, fun j a ha => ?_, fun j t ht => ?_⟩
  · dsimp only
    split
    · exact a1
    · exact h1 j
  · by_cases e1 : j = i
    · by_cases e2 : l = i
      · rw [e1, e2]
      · simp only [if_pos e1] at ha
        simp only [if_neg e2] at hb
        obtain ⟨_, z, _⟩ := a2 a ha
        obtain ⟨_, _, _, u, hu⟩ := h3 l a hb
        rw [hu] at z; cases z
    · by_cases e2 : l = i
      · simp only [if_neg e1] at ha
        simp only [if_pos e2] at hb
        obtain ⟨_, z, _⟩ := a2 a hb
        obtain ⟨_, _, _, u, hu⟩ := h3 j a ha
        rw [hu] at z; cases z
      · simp only [if_neg e1] at ha
        simp only [if_neg e2] at hb
        exact h2 j l a ha hb
  · by_cases e1 : j = i
    · simp only [if_pos e1] at ha
      obtain ⟨q1, q2, q3⟩ := a2 a ha
      exact ⟨q1, h.g.h.back q2, q3⟩
    · simp only [if_neg e1] at ha
      obtain ⟨q1, q2, q3, _⟩ := h3 j a ha
      exact ⟨q1, q2, q3⟩
  · by_cases e1 : j = i
    · subst e1
      by_cases hl : j < ρ.length
      · rw [List.getElem?_set_self hl] at ht
        cases ht
        rw [List.getElem?_set_self (by rw [h.len]; exact hl)]
        simp only [if_true]
        exact a3
      · rw [List.getElem?_eq_none (by rw [List.length_set]; omega)] at ht; cases ht
    · rw [List.getElem?_set_ne (Ne.symm e1)] at ht ⊢
      simp only [if_neg e1]
      exact h4 j t ht
/-- .. to shared data -/
theorem EnvOk.putD {v : V} {d : Da} {i : Nat} (h : EnvOk T F0 H0 F H σ ρ) (r : Rep T F v d) : EnvOk T F0 H0 F H (σ.set i (some v)) (ρ.set i (.sh d)) := h.put (Grow.refl h.g.s) r
end

/-! ### statements -/
inductive Ou where
  | nx (r : Rho) | rt (s : Sl) | bk (r : Rho) | ct (r : Rho) | ex (c : Str) (r : Rho) | no
abbrev SemS := Rho → Ou
section
variable (T : Tx) (W : WX)
def PostS (D : Ends) (F0 H0 F : Hp) : Ou → Prop
  | .nx ρ' => ∀ σ' F' H', Ex F F' → EnvOk T F0 H0 F' H' σ' ρ' → D.nx σ' H'
  | .bk ρ' => ∀ σ' F' H', Ex F F' → EnvOk T F0 H0 F' H' σ' ρ' → D.bk σ' H'
  | .ct ρ' => ∀ σ' F' H', Ex F F' → EnvOk T F0 H0 F' H' σ' ρ' → D.ct σ' H'
  | .rt s => ∀ v F' H', Grow F0 H0 F' H' → SlV T H0 F' H' v s → D.rt v H'
  | .ex c ρ' => ∀ C σ' F' H', T.mg c = some (.ref C) → Ex F F' → EnvOk T F0 H0 F' H' σ' ρ' → W (.ref C) none σ' H'
  | .no => False
def tS (g : SemS) : TS := fun D σ H => ∃ F0 H0 F ρ, EnvOk T F0 H0 F H σ ρ ∧ PostS T W D F0 H0 F (g ρ)
end
def seps : Da → Bool
  | .non => true
  | .bl _ => true
  | .int _ => true
  | .str _ => true
  | _ => false
def sep : Sl → Bool
  | .dead => false
  | .sh d => seps d
  | .ow xs => xs.all seps
  | .ow2 xss => xss.all fun xs => xs.all seps
/-- a value that is to be kept: read off the shared slots; or (full) off all of them, if it holds no reference -/
def stf (full : Bool) (f : Sem1) : Sem1 := fun ρ => match full with
  | false => f (Rho.shs ρ)
  | true => (f ρ).bind fun s => if sep s = true then .ok s else .no
section
variable {T : Tx} {W : WX} {F0 H0 F H F' H' : Hp} {σ : St} {ρ : Rho}
theorem seps_rep {v : V} {d : Da} (r : Rep T H v d) (h : seps d = true) : Rep T F v d := by
  cases r <;> first | (constructor; done) | cases h
theorem seps_reps : ∀ {vs : List V} {ds : List Da}, RepAll T H vs ds → ds.all seps = true → RepAll T F vs ds
  | _, _, .nil, _ => .nil
  | _, _, .cons r t, h => by
    rw [List.all_cons, Bool.and_eq_true] at h
    exact .cons (seps_rep r h.1) (seps_reps t h.2)
theorem seps_rows : ∀ {as : List Addr} {xss : List (List Da)}, Rows T F' H as xss → (xss.all fun xs => xs.all seps) = true → Rows T F H as xss
  | [], [], _, _ => trivial
  | a :: as, xs :: xss, ⟨⟨vs, h1, h2⟩, t⟩, h => by
    rw [List.all_cons, Bool.and_eq_true] at h
    exact ⟨⟨vs, h1, seps_reps h2 h.1⟩, seps_rows t h.2⟩
  | [], _ :: _, h, _ => h.elim
  | _ :: _, [], h, _ => h.elim
theorem run_st {P : Rs Sl → Prop} {full : Bool} {f : Sem1} {Q : VK} (ok : EnvOk T F0 H0 F H σ ρ) (hp : P (stf full f ρ)) (hno : ¬ P .no) (hex : ∀ c, P (.ex c) → PEx T W σ H c)
    (q : ∀ s v F' H', Grow F H F' H' → SlV T H F' H' v s → P (.ok s) → Q v H') : tD T W f σ H Q := by
  cases full with
  | false =>
    refine ⟨F, Rho.shs ρ, ok.g.s, ok.viewF, ?_⟩
    unfold stf at hp
    dsimp only at hp
    cases hf : f (Rho.shs ρ) with
    | no => rw [hf] at hp; exact (hno hp).elim
    | ex c => rw [hf] at hp; exact hex c hp
    | ok s => rw [hf] at hp; exact fun v F' H' g r => q s v F' H' g r hp
  | true =>
    refine ⟨H, ρ, Ex.refl H, ok.view, ?_⟩
    unfold stf at hp
    dsimp only at hp
    cases hf : f ρ with
    | no => rw [hf] at hp; exact (hno hp).elim
    | ex c => rw [hf] at hp; exact hex c hp
    | ok s =>
      rw [hf] at hp
      simp only [Rs.bind] at hp
      intro v F1 H' g r
      by_cases hs : sep s = true
      · rw [if_pos hs] at hp
        have g' : Grow F H F H' := ⟨Ex.refl F, g.h, ok.g.s.trans g.h, fun _ _ z => .inl z⟩
        refine q s v F H' g' ?_ hp
        cases s with
        | dead => cases hs
        | sh d => exact seps_rep r hs
        | ow xs =>
          obtain ⟨p, vs, r1, r2, r3, r4, r5⟩ := r
          exact ⟨p, vs, r1, r2, ok.g.s.back r2, r4, seps_reps r5 hs⟩
        | ow2 xss =>
          obtain ⟨p, as, r1, r2, r3, r4, r5, r6, r7⟩ := r
          exact ⟨p, as, r1, r2, ok.g.s.back r2, r4, r5, fun a ha => ⟨(r6 a ha).1, ok.g.s.back (r6 a ha).1⟩, seps_rows r7 hs⟩
      · rw [if_neg hs] at hp; exact (hno hp).elim
/-- the exception of a statement's own expression -/
theorem post_ex {D : Ends} {c : Str} (ok : EnvOk T F0 H0 F H σ ρ) (h : PostS T W D F0 H0 F (.ex c ρ)) : PEx T W σ H c := fun C H' e1 e2 => h C σ F H' e1 (Ex.refl F) (ok.grow e2)
theorem PostS.mono {D : Ends} (e : Ex F F') : ∀ {o : Ou}, PostS T W D F0 H0 F o → PostS T W D F0 H0 F' o
  | .nx _, h => fun σ' F2 H2 e2 k => h σ' F2 H2 (e.trans e2) k
  | .bk _, h => fun σ' F2 H2 e2 k => h σ' F2 H2 (e.trans e2) k
  | .ct _, h => fun σ' F2 H2 e2 k => h σ' F2 H2 (e.trans e2) k
  | .rt _, h => h
  | .ex _ _, h => fun C σ' F2 H2 e1 e2 k => h C σ' F2 H2 e1 (e.trans e2) k
  | .no, h => h
end
def sNil : SemS := fun ρ => .nx ρ
def sSeq (a b : SemS) : SemS := fun ρ => match a ρ with
  | .nx ρ' => b ρ'
  | .rt s => .rt s
  | .bk r => .bk r
  | .ct r => .ct r
  | .ex c r => .ex c r
  | .no => .no
def sExpr (f : Sem1) : SemS := fun ρ => match f ρ with
  | .ok _ => .nx ρ
  | .ex c => .ex c ρ
  | .no => .no
/-- name = e: kept as it is -/
def sOwn (i : Nat) (full : Bool) (f : Sem1) : SemS := fun ρ => match stf full f ρ with
  | .ok s => .nx (ρ.set i s)
  | .ex c => .ex c ρ
  | .no => .no
/-- name = e: kept as shared data -/
def sSet (i : Nat) (full : Bool) (f : Sem1) : SemS := fun ρ => match dat (stf full f ρ) with
  | .ok d => .nx (ρ.set i (.sh d))
  | .ex c => .ex c ρ
  | .no => .no
def sRet (full : Bool) (f : Sem1) : SemS := fun ρ => match stf full f ρ with
  | .ok s => .rt s
  | .ex c => .ex c ρ
  | .no => .no
def sRetVar (i : Nat) : SemS := fun ρ => match ρ[i]? with
  | some .dead => .no
  | some s => .rt s
  | none => .no
def sIf (t : Rho → Rs Bool) (a b : SemS) : SemS := fun ρ => match t ρ with
  | .ok true => a ρ
  | .ok false => b ρ
  | .ex c => .ex c ρ
  | .no => .no
def sRaise (c : Str) : SemS := fun ρ => .ex c ρ
section
variable {X : Cx} {T : Tx} {W : WX} {a b : SemS} {st : Stmt} {rest : List Stmt} {f : Sem1} {e : Expr} {pos : Pos} {full : Bool}
theorem ss_nil : PSs X [] (tS T W sNil) := pss_imp pss_nil fun D σ H ⟨F0, H0, F, ρ, ok, hp⟩ => hp σ F H (Ex.refl F) ok
theorem ss_cons (h1 : PS X st (tS T W a)) (h2 : PSs X rest (tS T W b)) : PSs X (st :: rest) (tS T W (sSeq a b)) :=
  pss_imp (pss_cons h1 h2) fun D σ H ⟨F0, H0, F, ρ, ok, hp⟩ => ⟨F0, H0, F, ρ, ok, by
    unfold sSeq at hp
    cases ha : a ρ with
    | nx ρ' => rw [ha] at hp; exact fun σ' F' H' e k => ⟨F0, H0, F', ρ', k, PostS.mono e hp⟩
    | rt s => rw [ha] at hp; exact hp
    | bk s => rw [ha] at hp; exact hp
    | ct s => rw [ha] at hp; exact hp
    | ex c s => rw [ha] at hp; exact hp
    | no => rw [ha] at hp; exact hp⟩
theorem ss_one (h1 : PS X st (tS T W a)) : PSs X [st] (tS T W a) := pss_one h1
theorem s_expr (he : PE X e (tD T W f)) (hs : swapsWith e none pos.line X.env = pure false := by rfl) : PS X (.Expr e pos) (tS T W (sExpr f)) :=
  ps_imp (ps_expr he hs) fun D σ H ⟨F0, H0, F, ρ, ok, hp⟩ => ⟨H, ρ, Ex.refl H, ok.view, by
    unfold sExpr at hp
    cases hf : f ρ with
    | ok s => rw [hf] at hp; exact fun v F' H' g r => hp σ F H' (Ex.refl F) (ok.grow g.h)
    | ex c => rw [hf] at hp; exact post_ex ok hp
    | no => rw [hf] at hp; exact hp⟩
theorem own_core {i : Nat} : ∀ D σ H, tS T W (sOwn i full f) D σ H → tD T W f σ H fun x H1 => D.nx (σ.set i (some x)) H1 := fun D σ H ⟨F0, H0, F, ρ, ok, hp⟩ => by
  refine run_st (P := fun r => PostS T W D F0 H0 F (match r with | .ok s => .nx (ρ.set i s) | .ex c => .ex c ρ | .no => .no)) ok hp (fun z => z) (fun c z => post_ex ok z) fun s v F' H' g r hq => ?_
  exact hq _ F' H' g.f (ok.put g r)
theorem set_core {i : Nat} : ∀ D σ H, tS T W (sSet i full f) D σ H → tD T W f σ H fun x H1 => D.nx (σ.set i (some x)) H1 := fun D σ H ⟨F0, H0, F, ρ, ok, hp⟩ => by
  refine run_st (P := fun r => PostS T W D F0 H0 F (match dat r with | .ok d => .nx (ρ.set i (.sh d)) | .ex c => .ex c ρ | .no => .no)) ok hp (fun z => z) (fun c z => post_ex ok z) fun s v F' H' g r hq => ?_
  cases hv : s.view with
  | none => simp only [dat, hv] at hq; exact hq.elim
  | some d =>
    simp only [dat, hv] at hq
    obtain ⟨F2, g2, r2⟩ := r.see g hv
    exact hq _ F2 H' g2.f ((ok.ext g2).putD r2)
theorem s_own {i : Nat} {x : Str} {pos' : Pos} (hN : X.N.Nodup) (hi : X.N[i]? = some x) (hx : Loc X.env.scope x) (he : PE X e (tD T W f)) (hs : swapsWith e (some (.Name x pos')) pos.line X.env = pure false := by rfl)
    (hf : X.fn x = true ∨ X.env.scope.names.lookup x = some .local := by first | exact .inl rfl | exact .inr rfl | assumption) : PS X (.Assign [.Name x pos'] e pos) (tS T W (sOwn i full f)) :=
  ps_imp (ps_set hN hi hx he hs hf) own_core
theorem s_set {i : Nat} {x : Str} {pos' : Pos} (hN : X.N.Nodup) (hi : X.N[i]? = some x) (hx : Loc X.env.scope x) (he : PE X e (tD T W f)) (hs : swapsWith e (some (.Name x pos')) pos.line X.env = pure false := by rfl)
    (hf : X.fn x = true ∨ X.env.scope.names.lookup x = some .local := by first | exact .inl rfl | exact .inr rfl | assumption) : PS X (.Assign [.Name x pos'] e pos) (tS T W (sSet i full f)) :=
  ps_imp (ps_set hN hi hx he hs hf) set_core
theorem s_ret (he : PE X e (tD T W f)) : PS X (.Return (some e) pos) (tS T W (sRet full f)) :=
  ps_imp (ps_ret he) fun D σ H ⟨F0, H0, F, ρ, ok, hp⟩ => by
    refine run_st (P := fun r => PostS T W D F0 H0 F (match r with | .ok s => .rt s | .ex c => .ex c ρ | .no => .no)) ok hp (fun z => z) (fun c z => post_ex ok z) fun s v F' H' g r hq => ?_
    exact hq v F' H' (ok.g.trans g) (r.back ok.g.h)
theorem s_retVar (i : Nat) {x : Str} {p : Pos} (hN : X.N[i]? = some x := by rfl) (hv : Vis X.env.scope x := by first | exact Or.inl rfl | exact Or.inr (Or.inl rfl) | exact Or.inr (Or.inr rfl)) (hd : (x == ("__debug__" : Str)) = false := by decide)
    (hcd : (x == ("__classdict__" : Str)) = false := by decide) : PS X (.Return (some (.Name x p)) pos) (tS T W (sRetVar i)) :=
  ps_imp (ps_ret (pe_var hN hv hd hcd)) fun D σ H ⟨F0, H0, F, ρ, ok, hp⟩ => by
    unfold sRetVar at hp
    obtain ⟨o, h1, h2, h3, h4⟩ := ok.ow
    cases hr : ρ[i]? with
    | none => rw [hr] at hp; exact hp.elim
    | some s =>
      rw [hr] at hp
      have q := h4 i s hr
      cases s with
      | dead => exact hp.elim
      | sh d => obtain ⟨_, x, q1, q2⟩ := q; exact ⟨x, q1, hp x F H ok.g q2⟩
      | ow xs =>
        obtain ⟨p, vs, q1, q2, q3, q4⟩ := q
        obtain ⟨z1, z2, _⟩ := h3 i p (by rw [q1]; exact List.mem_cons_self)
        exact ⟨_, q2, hp _ F H ok.g ⟨p, vs, rfl, z2, z1, q3, q4⟩⟩
      | ow2 xss =>
        obtain ⟨p, as, q1, q2, q3, q4⟩ := q
        obtain ⟨z1, z2, _⟩ := h3 i p (by rw [q1]; exact List.mem_cons_self)
        refine ⟨_, q2, hp _ F H ok.g ⟨p, as, rfl, z2, z1, q3, by rw [← q1]; exact h1 i, fun a ha => ?_, q4⟩⟩
        obtain ⟨y1, y2, _⟩ := h3 i a (by rw [q1]; exact List.mem_cons_of_mem _ ha)
        exact ⟨y2, y1⟩
theorem s_if {c : Expr} {t : Rho → Rs Bool} {sa sb : List Stmt} (hc : PT X c (tT T W t)) (ha : PSs X sa (tS T W a)) (hb : PSs X sb (tS T W b)) : PS X (.If c sa sb pos) (tS T W (sIf t a b)) :=
  ps_imp (ps_if hc ha hb) fun D σ H ⟨F0, H0, F, ρ, ok, hp⟩ => ⟨H, ρ, Ex.refl H, ok.view, by
    unfold sIf at hp
    cases ht : t ρ with
    | no => rw [ht] at hp; exact hp
    | ex c => rw [ht] at hp; exact post_ex ok hp
    | ok b =>
      rw [ht] at hp
      intro F' H' g
      cases b with
      | true => exact ⟨F0, H0, F, ρ, ok.grow g.h, hp⟩
      | false => exact ⟨F0, H0, F, ρ, ok.grow g.h, hp⟩⟩
end

/-! ### a def -/
section
variable (T : Tx)
def PostF (F H : Hp) (Q : VK) (E : XK) : Rs Sl → Prop
  | .ok s => ∀ v F' H', Grow F H F' H' → SlV T H F' H' v s → Q v H'
  | .ex c => ∀ C H', T.mg c = some (.ref C) → Ex H H' → E (.ref C) none H'
  | .no => False
def spS (n : Nat) (f : List Da → Rs Sl) : Sp := fun vs H Q E => vs.length = n ∧ ∃ F ds, Ex F H ∧ RepAll T F vs ds ∧ PostF T F H Q E (f ds)
end
def endS (o : Ou) : Rs Sl := match o with
  | .nx _ => .ok (.sh .non)
  | .rt s => .ok s
  | .ex c _ => .ex c
  | _ => .no
def fDef (n : Nat) (g : SemS) : List Da → Rs Sl := fun ds => endS (g (ds.map Sl.sh ++ List.replicate (n - ds.length) Sl.dead))
theorem start_ok {T : Tx} {N : List Str} {vs : List V} {ds : List Da} {F H : Hp} (e : Ex F H) (r : RepAll T F vs ds) : EnvOk T F H F H (L2.start N vs) (ds.map Sl.sh ++ List.replicate (N.length - ds.length) Sl.dead) := by
  have hl := r.length
  refine ⟨Grow.refl e, ?_, fun _ => [], fun _ => List.Pairwise.nil, fun _ _ _ h => absurd h List.not_mem_nil, fun _ _ h => absurd h List.not_mem_nil, fun i s hs => ?_⟩
  · unfold L2.start
    rw [List.length_append, List.length_append, List.length_map, List.length_map, List.length_replicate, List.length_replicate, hl]
  · unfold L2.start
    by_cases hi : i < ds.length
    · rw [List.getElem?_append_left (by rw [List.length_map]; exact hi), List.getElem?_map] at hs
      rw [List.getElem?_append_left (by rw [List.length_map, hl]; exact hi), List.getElem?_map]
      cases hd : ds[i]? with
      | none => rw [hd] at hs; cases hs
      | some d =>
        rw [hd] at hs; cases hs
        obtain ⟨v, h1, h2⟩ := r.get' hd
        rw [h1]
        exact ⟨rfl, v, rfl, h2⟩
    · rw [List.getElem?_append_right (by rw [List.length_map]; omega), List.length_map] at hs
      have := List.mem_of_getElem? hs
      rw [List.eq_of_mem_replicate this]
      rfl
section
variable {P : Program} {w : World} {T : Tx} {base : Heap}
theorem okD {x qual : Str} {st : Stmt} {f : Addr} {fd : FuncData} {N ps : List Str} {k : Nat} {g : SemS} (F : Fun T.K x qual st f fd) (S : FnScope N ps (defScope st))
    (hbody : ∀ (cdv : Value) (A : Around) (outer : List Env) (s : Shared) (H : Hp) (E : XK), Room k (A.deeper (envOfC qual (defScope st) s.heap.objs.size f cdv)) →
      PSs (cxOf (L2N.CX P w) P w T.K T.mg base N qual (defScope st) f cdv A outer s H E) (defBody st) (tS T (fun cls d _ H => E cls d H) g)) :
    FnOk P w T.K T.mg base (L2N.CX P w) (k + 1) f fd ps (spS T ps.length (fDef N.length g)) := by
  obtain ⟨oc, od, kV, doc, pm, an, cdv, ct, osl, rfl, lk, hcd⟩ := F.ex
  refine fn_of lk hcd S (fun vs H Q E h => h.1) fun A outer s H vs Q E hr h => ⟨_, hbody cdv A outer s H E hr, ?_⟩
  obtain ⟨hl, F', ds, e, r, hp⟩ := h
  refine ⟨F', H, F', _, start_ok e r, ?_⟩
  unfold fDef at hp
  cases ho : g (ds.map Sl.sh ++ List.replicate (N.length - ds.length) Sl.dead) with
  | nx ρ' => rw [ho] at hp; exact fun σ' F2 H2 e2 k => hp _ F2 H2 k.g .non
  | rt s => rw [ho] at hp; exact hp
  | bk _ => rw [ho] at hp; exact hp.elim
  | ct _ => rw [ho] at hp; exact hp.elim
  | ex c _ => rw [ho] at hp; exact fun C σ' F2 H2 e1 e2 k => hp C H2 e1 k.g.h
  | no => rw [ho] at hp; exact hp.elim
end
def eFn (f : List Da → Rs Sl) (fs : Rho → Rs (List Da)) : Sem1 := fun ρ => (fs ρ).bind f
section
variable {X : Cx} {T : Tx} {W : WX} {k n : Nat} {f : Addr} {fd : FuncData} {ps : List Str} {g : List Da → Rs Sl} {x : Str} {p pos : Pos} {e : Expr} {es : List Expr} {fs : Rho → Rs (List Da)}
theorem aNil_len {es : List Expr} : True := trivial
theorem e_call (G : FnOk X.prog X.w X.K X.mg X.base (L2N.CX X.prog X.w) k f fd ps (spS T n g)) (hr : Room k X.A) (hg : Gl X x) (hm : X.mg x = some (.ref f)) (hk : PySem.W.keepIn X.K (.ref f) = true) (hb : Binds X.K fd ps []) (tk : L2N.Takes X W)
    (ha : PA X (e :: es) (tA T W fs)) (hn : ∀ ρ ds, fs ρ = .ok ds → ds.length = n) (hdb : (x == ("__debug__" : Str)) = false := by decide) (he : starEach (e :: es) X.env = (false, eval e X.env) :: starEach es X.env := by rfl)
    (hpl : (backTo pos (starEach es X.env)).any (·.1) = false := by rfl) : PE X (.Call (.Name x p) (e :: es) [] pos) (tD T W (eFn g fs)) :=
  pe_imp (pe_callS (E := WE W) G hr hg hm hk hb (fun σ => L2N.passAt tk σ) ha hdb he hpl) fun σ H Q ⟨F, ρ, e, vw, hp⟩ => by
    refine ⟨F, ρ, e, vw, ?_⟩
    unfold eFn at hp
    cases hf : fs ρ with
    | no => rw [hf] at hp; exact hp.elim
    | ex c => rw [hf] at hp; exact hp
    | ok ds =>
      rw [hf] at hp
      intro vs F1 H1 g1 r1
      refine ⟨by rw [r1.length]; exact hn ρ ds hf, F1, ds, g1.s, r1, ?_⟩
      simp only [Rs.bind] at hp
      have hp' : Post T W σ F1 H1 Q (g ds) := Post.mono g1 hp
      cases hg : g ds with
      | no => rw [hg] at hp'; exact hp'.elim
      | ex c => rw [hg] at hp'; exact hp'
      | ok s => rw [hg] at hp'; exact hp'
theorem len_nil : ∀ (ρ : Rho) (ds : List Da), aNil ρ = .ok ds → ds.length = 0 := fun ρ ds h => by cases h; rfl
theorem len_cons {f : Sem1} {fs : Rho → Rs (List Da)} {n : Nat} (h : ∀ (ρ : Rho) (ds : List Da), fs ρ = .ok ds → ds.length = n) : ∀ (ρ : Rho) (ds : List Da), aCons f fs ρ = .ok ds → ds.length = n + 1 := fun ρ ds q => by
  unfold aCons at q
  cases h1 : dat (f ρ) with
  | no => rw [h1] at q; cases q
  | ex c => rw [h1] at q; cases q
  | ok d =>
    rw [h1] at q
    simp only [Rs.bind] at q
    cases h2 : fs ρ with
    | no => rw [h2] at q; cases q
    | ex c => rw [h2] at q; cases q
    | ok ds' => rw [h2] at q; cases q; rw [List.length_cons, h ρ ds' h2]
end
end G6

namespace G6
open PySem PySem.Spec PyProof.Rows L2

/-! ### targets -/
def setV (σ : St) : List Nat → List V → St
  | i :: is, v :: vs => setV (σ.set i (some v)) is vs
  | _, _ => σ
def setR (ρ : Rho) : List Nat → List Da → Rho
  | i :: is, d :: ds => setR (ρ.set i (.sh d)) is ds
  | _, _ => ρ
abbrev Unp := Da → Option (List Da)
def un1 : Unp := fun d => some [d]
def unT : Unp := fun d => match d with
  | .tup xs => some xs
  | _ => none
def TgOk (T : Tx) (g : TG) (is : List Nat) (un : Unp) : Prop := ∀ (F H : Hp) (v : V) (d : Da) (ds : List Da) (σ : St) (Q : St → Hp → Prop), Ex F H → Rep T F v d → un d = some ds → ds.length = is.length →
  (∀ vs, RepAll T F vs ds → Q (setV σ is vs) H) → g v σ H Q
def TgsOk (g : TGs) (is : List Nat) : Prop := ∀ (vs : List V) (σ : St) (H : Hp) (Q : St → Hp → Prop), vs.length = is.length → Q (setV σ is vs) H → g vs σ H Q
section
variable {T : Tx}
theorem tg_name {i : Nat} : TgOk T (gName i) [i] un1 := fun F H v d ds σ Q e r h _ q => by
  cases h
  exact q [v] (.cons r .nil)
theorem tgs_nil : TgsOk gNil [] := fun vs σ H Q hl q => by
  cases vs with
  | nil => exact ⟨rfl, q⟩
  | cons _ _ => simp at hl
theorem tgs_cons {i : Nat} {g : TGs} {is : List Nat} (h : TgsOk g is) : TgsOk (gCons (gName i) g) (i :: is) := fun vs σ H Q hl q => by
  cases vs with
  | nil => simp at hl
  | cons v vs => exact ⟨v, vs, rfl, h vs _ H Q (by simpa using hl) q⟩
theorem tg_tup {g : TGs} {is : List Nat} {n : Nat} (h : TgsOk g is) (hn : is.length = n := by rfl) : TgOk T (gTup T.K n g) is unT := fun F H v d ds σ Q e r hu hl q => by
  cases r with
  | tup h1 r1 =>
    cases hu
    exact ⟨_, _, rfl, ex_t e h1, by rw [r1.length, hl, hn], h _ σ H Q (by rw [r1.length]; exact hl) (q _ r1)⟩
  | _ => cases hu
theorem tg_lst {g : TGs} {is : List Nat} {n : Nat} (h : TgsOk g is) (hn : is.length = n := by rfl) : TgOk T (gLst T.K n g) is asL := fun F H v d ds σ Q e r hu hl q => by
  obtain ⟨a, vs, rfl, h1, h2⟩ := r.list hu
  exact ⟨a, vs, rfl, ex_l e h1, by rw [h2.length, hl, hn], h _ σ H Q (by rw [h2.length]; exact hl) (q _ h2)⟩
end
section
variable {T : Tx} {F0 H0 F H : Hp}
theorem EnvOk.setM : ∀ {is : List Nat} {vs : List V} {ds : List Da} {σ : St} {ρ : Rho}, EnvOk T F0 H0 F H σ ρ → RepAll T F vs ds → EnvOk T F0 H0 F H (setV σ is vs) (setR ρ is ds)
  | [], _, _, _, _, h, _ => h
  | i :: is, _, _, _, _, h, .nil => h
  | i :: is, _, _, _, _, h, .cons r t => EnvOk.setM (is := is) (h.putD r) t
theorem View.put {σ : St} {ρ : Rho} {i : Nat} {v : V} {d : Da} (h : View T F σ ρ) (r : Rep T F v d) : View T F (σ.set i (some v)) (ρ.set i (.sh d)) := by
  refine ⟨by rw [List.length_set, List.length_set]; exact h.len, fun j s d' hs hv => ?_⟩
  by_cases e : i = j
  · subst e
    by_cases hl : i < ρ.length
    · rw [List.getElem?_set_self hl] at hs
      cases hs; cases hv
      rw [List.getElem?_set_self (by rw [h.len]; exact hl)]
      exact ⟨v, rfl, r⟩
    · rw [List.getElem?_eq_none (by rw [List.length_set]; omega)] at hs; cases hs
  · rw [List.getElem?_set_ne e] at hs ⊢
    exact h.at_ j s d' hs hv
theorem View.setM : ∀ {is : List Nat} {vs : List V} {ds : List Da} {σ : St} {ρ : Rho}, View T F σ ρ → RepAll T F vs ds → View T F (setV σ is vs) (setR ρ is ds)
  | [], _, _, _, _, h, _ => h
  | i :: is, _, _, _, _, h, .nil => h
  | i :: is, _, _, _, _, h, .cons r t => View.setM (is := is) (h.put r) t
end
def wipeR (ρ : Rho) : List Nat → Rho
  | [] => ρ
  | v :: vs => (wipeR ρ vs).set v .dead
theorem wipeR_length (ρ : Rho) : ∀ vs : List Nat, (wipeR ρ vs).length = ρ.length
  | [] => rfl
  | v :: vs => by unfold wipeR; rw [List.length_set, wipeR_length ρ vs]
theorem View.wipe {T : Tx} {F : Hp} {σ : St} {ρ : Rho} (h : View T F σ ρ) : ∀ vs : List Nat, View T F (L2.wipe σ vs) (wipeR ρ vs)
  | [] => h
  | v :: vs => by
    have ih := View.wipe h vs
    unfold L2.wipe wipeR
    refine ⟨by rw [List.length_set, List.length_set]; exact ih.len, fun j s d hs hv => ?_⟩
    by_cases e : v = j
    · subst e
      by_cases hl : v < (wipeR ρ vs).length
      · rw [List.getElem?_set_self hl] at hs; cases hs; cases hv
      · rw [List.getElem?_eq_none (by rw [List.length_set]; omega)] at hs; cases hs
    · rw [List.getElem?_set_ne e] at hs ⊢
      exact ih.at_ j s d hs hv
theorem wipe_get (σ : L2.St) : ∀ (vs : List Nat) (j : Nat), (L2.wipe σ vs)[j]? = if j ∈ vs then (if j < σ.length then some none else none) else σ[j]?
  | [], j => by simp [L2.wipe]
  | v :: vs, j => by
    unfold L2.wipe
    by_cases e : v = j
    · subst e
      rw [if_pos List.mem_cons_self]
      by_cases hl : v < σ.length
      · rw [List.getElem?_set_self (by rw [L2.wipe_length]; exact hl), if_pos hl]
      · rw [List.getElem?_eq_none (by rw [List.length_set, L2.wipe_length]; omega), if_neg hl]
    · rw [List.getElem?_set_ne e, wipe_get σ vs j]
      have : (j ∈ v :: vs) ↔ j ∈ vs := by
        rw [List.mem_cons]
        exact ⟨fun h => h.elim (fun z => absurd z.symm e) id, .inr⟩
      simp only [this]
theorem wipe_setV {vs : List Nat} : ∀ {is : List Nat} {xs : List V} {σ : L2.St}, (∀ i ∈ is, i ∈ vs) → L2.wipe (setV σ is xs) vs = L2.wipe σ vs
  | [], _, _, _ => rfl
  | i :: is, [], _, _ => rfl
  | i :: is, x :: xs, σ, h => by
    unfold setV
    rw [wipe_setV (fun j hj => h j (List.mem_cons_of_mem _ hj))]
    refine List.ext_getElem? fun j => ?_
    rw [wipe_get, wipe_get, List.length_set]
    by_cases hj : j ∈ vs
    · rw [if_pos hj, if_pos hj]
    · rw [if_neg hj, if_neg hj, List.getElem?_set_ne (fun e : i = j => hj (by rw [← e]; exact h i List.mem_cons_self))]
theorem wipe_wipe (σ : L2.St) (vs : List Nat) : L2.wipe (L2.wipe σ vs) vs = L2.wipe σ vs := by
  refine List.ext_getElem? fun j => ?_
  rw [wipe_get, wipe_get, L2.wipe_length]
  by_cases hj : j ∈ vs
  · rw [if_pos hj, if_pos hj]
  · rw [if_neg hj, if_neg hj]

/-! ### what is walked -/
def WalkD (T : Tx) (F : Hp) (J : It) (items : List Da) : Prop := Walk J items.length (fun Hc => Ex F Hc) fun i Hc x Hc' => ∀ F1, Ex F F1 → Ex F1 Hc → ∃ d F2, items[i]? = some d ∧ Grow F1 Hc F2 Hc' ∧ Rep T F2 x d
section
variable (T : Tx) (W : WX)
def PostI (σ : St) (F H : Hp) (R : It → Hp → Prop) : Rs (List Da) → Prop
  | .ok items => ∀ J F' H', Grow F H F' H' → WalkD T F' J items → R J H'
  | .ex c => PEx T W σ H c
  | .no => False
def tI (f : Rho → Rs (List Da)) : TI := fun σ H R => ∃ F ρ, Ex F H ∧ View T F σ ρ ∧ PostI T W σ F H R (f ρ)
end
def iL (un : Unp) (f : Sem1) : Rho → Rs (List Da) := fun ρ => (dat (f ρ)).bind fun d => ofO (un d)
def rngD (lo : Int) (n : Nat) : List Da := (List.range n).map fun (k : Nat) => Da.int (lo + (k : Int))
def iR1 (fs : Rho → Rs (List Da)) : Rho → Rs (List Da) := fun ρ => (fs ρ).bind fun ds => match ds with
  | [.int n] => if n ≤ 1000000 ∧ -1000000 ≤ n then .ok (rngD 0 n.toNat) else .no
  | _ => .no
def iR2 (fs : Rho → Rs (List Da)) : Rho → Rs (List Da) := fun ρ => (fs ρ).bind fun ds => match ds with
  | [.int a, .int b] => if -1000000 ≤ a ∧ a ≤ 1000000 ∧ b ≤ 1000000 ∧ -1000000 ≤ b then .ok (rngD a (b - a).toNat) else .no
  | _ => .no
def pairs (xs ys : List Da) : List Da := List.zipWith (fun x y => Da.tup [x, y]) xs ys
def iEnum (fs : Rho → Rs (List Da)) : Rho → Rs (List Da) := fun ρ => (fs ρ).bind fun ds => match ds with
  | [d] => (match asL d with
    | some xs => .ok (pairs (rngD 0 xs.length) xs)
    | none => .no)
  | _ => .no
def iZip (fs : Rho → Rs (List Da)) : Rho → Rs (List Da) := fun ρ => (fs ρ).bind fun ds => match ds with
  | [d, e] => (match asL d, asL e with
    | some xs, some ys => .ok (pairs xs ys)
    | _, _ => .no)
  | _ => .no
section
variable {X : Cx} {T : Tx} {W : WX} {tg l : Expr} {f : Sem1} {fs : Rho → Rs (List Da)} {p pos : Pos}
theorem pi_imp {e : Expr} {t t' : TI} (h : PI X tg e t) (i : ∀ σ H R, t' σ H R → t σ H R) : PI X tg e t' := ⟨fun pins s σ H R I hw => h.run pins s σ H R I (i σ H R hw)⟩
theorem walk_at {F : Hp} {J : It} {xs : List V} {ds : List Da} {G : Hp → Prop} (w : Walk J xs.length G (YAt xs)) (hG : ∀ Hc, Ex F Hc → G Hc) (r : RepAll T F xs ds) : WalkD T F J ds := by
  unfold WalkD
  rw [← r.length]
  refine w.mono hG fun i Hc x Hc' hi _ y F1 e1 e2 => ?_
  obtain ⟨rfl, y⟩ := y
  obtain ⟨d, h1, h2⟩ := r.get y
  exact ⟨d, F1, h1, Grow.refl e2, h2.mono e1⟩
theorem bind_i {α : Type} {R : It → Hp → Prop} {σ : St} {F H : Hp} {ρ : Rho} {k : Da → Rs (List Da)} {Q' : VK} (e : Ex F H) (vw : View T F σ ρ) (hp : PostI T W σ F H R ((dat (f ρ)).bind k))
    (q : ∀ d v F' H', Grow F H F' H' → Rep T F' v d → PostI T W σ F H R (k d) → Q' v H') : tD T W f σ H Q' :=
  seq_d (P := PostI T W σ F H R) e vw hp (fun z => z) (fun _ z => z) q
theorem i_list (hK : T.K = X.K) (hl : PE X l (tD T W f)) : PI X tg l (tI T W (iL asL f)) :=
  pi_imp (pi_list hl) fun σ H R ⟨F, ρ, e, vw, hp⟩ => bind_i (α := Unit) e vw hp fun d v F' H' g r hq => by
    cases hd : asL d with
    | none => rw [hd] at hq; exact hq.elim
    | some xs =>
      rw [hd] at hq
      obtain ⟨a, vs, rfl, h1, h2⟩ := r.list hd
      rw [hK] at h1
      exact ⟨a, rfl, ⟨vs, ex_l g.s h1⟩, hq _ F' H' g (walk_at walk_list (fun Hc e => ex_l e h1) h2)⟩
theorem i_tup (hK : T.K = X.K) (hl : PE X l (tD T W f)) : PI X tg l (tI T W (iL unT f)) :=
  pi_imp (pi_tup hl) fun σ H R ⟨F, ρ, e, vw, hp⟩ => bind_i (α := Unit) e vw hp fun d v F' H' g r hq => by
    cases r with
    | tup h1 h2 =>
      rw [hK] at h1
      exact ⟨_, rfl, ⟨_, ex_t g.s h1⟩, hq _ F' H' g (walk_at walk_tup (fun Hc e => ex_t e h1) h2)⟩
    | _ => exact hq.elim
theorem bind_ia {R : It → Hp → Prop} {σ : St} {F H : Hp} {ρ : Rho} {k : List Da → Rs (List Da)} {Q' : List V → Hp → Prop} (e : Ex F H) (vw : View T F σ ρ) (hp : PostI T W σ F H R ((fs ρ).bind k))
    (q : ∀ ds vs F' H', Grow F H F' H' → RepAll T F' vs ds → PostI T W σ F H R (k ds) → Q' vs H') : tA T W fs σ H Q' := by
  refine ⟨F, ρ, e, vw, ?_⟩
  cases hf : fs ρ with
  | no => rw [hf] at hp; exact hp.elim
  | ex c => rw [hf] at hp; exact hp
  | ok ds =>
    rw [hf] at hp
    intro vs F' H' g r
    exact q ds vs F' H' g r hp
theorem walk_rng {F : Hp} {lo : Int} {n : Nat} : WalkD T F (Itr lo n) (rngD lo n) := by
  have hl : (rngD lo n).length = n := by unfold rngD; rw [List.length_map, List.length_range]
  unfold WalkD
  rw [hl]
  refine walk_range.mono (fun _ _ => trivial) fun i Hc x Hc' hi _ y F1 e1 e2 => ?_
  obtain ⟨rfl, rfl⟩ := y
  refine ⟨.int (lo + i), F1, ?_, Grow.refl e2, .int _⟩
  unfold rngD
  rw [List.getElem?_map, List.getElem?_range hi]
  rfl
theorem i_range1 {a : Expr} (hg : Gl X "range") (hm : X.mg "range" = none) (ha : PA X [a] (tA T W fs)) (hs : starEach [a] X.env = [(false, eval a X.env)] := by rfl) : PI X tg (.Call (.Name "range" p) [a] [] pos) (tI T W (iR1 fs)) :=
  pi_imp (pi_range1 hg hm ha hs) fun σ H R ⟨F, ρ, e, vw, hp⟩ => bind_ia e vw hp fun ds vs F' H' g r hq => by
    split at hq
    · rename_i n
      split at hq
      · rename_i hz
        cases r with
        | cons r1 r2 => cases r1; cases r2; exact ⟨n, rfl, by omega, by omega, hq _ F' H' g walk_rng⟩
      · exact hq.elim
    · exact hq.elim
theorem i_range2 {a b : Expr} (hg : Gl X "range") (hm : X.mg "range" = none) (ha : PA X [a, b] (tA T W fs)) (hs : starEach [a, b] X.env = [(false, eval a X.env), (false, eval b X.env)] := by rfl)
    (hs2 : starEach [b] X.env = [(false, eval b X.env)] := by rfl) : PI X tg (.Call (.Name "range" p) [a, b] [] pos) (tI T W (iR2 fs)) :=
  pi_imp (pi_range2 hg hm ha hs hs2) fun σ H R ⟨F, ρ, e, vw, hp⟩ => bind_ia e vw hp fun ds vs F' H' g r hq => by
    split at hq
    · rename_i n m
      split at hq
      · rename_i hz
        cases r with
        | cons r1 r2 => cases r1; cases r2 with
          | cons r2 r3 => cases r2; cases r3; exact ⟨n, m, rfl, by omega, hq _ F' H' g walk_rng⟩
      · exact hq.elim
    · exact hq.elim
theorem pairs_get {xs ys : List Da} {i : Nat} {x y : Da} (h1 : xs[i]? = some x) (h2 : ys[i]? = some y) : (pairs xs ys)[i]? = some (.tup [x, y]) := by
  unfold pairs
  rw [List.getElem?_zipWith, h1, h2]
/-- pairs that are made on the way -/
theorem walk_pair {F : Hp} {J : It} {n : Nat} {xs ys : Nat → Option V} {ds es : List Da} {G : Hp → Prop} (w : Walk J n G (YPair xs ys)) (hG : ∀ Hc, Ex F Hc → G Hc) (hn : (pairs ds es).length = n)
    (hx : ∀ i x, i < n → xs i = some x → ∃ d, ds[i]? = some d ∧ Rep T F x d) (hy : ∀ i y, i < n → ys i = some y → ∃ d, es[i]? = some d ∧ Rep T F y d) : WalkD T F J (pairs ds es) := by
  unfold WalkD
  rw [hn]
  refine w.mono hG fun i Hc v Hc' hi _ y F1 e1 e2 => ?_
  obtain ⟨A, x, y, rfl, hA, rfl, h1, h2⟩ := y
  obtain ⟨d, d1, d2⟩ := hx i x hi h1
  obtain ⟨e, e1', e2'⟩ := hy i y hi h2
  have hF : F1 A = none := e2.back hA
  exact ⟨_, _, pairs_get d1 e1', Grow.new e2 hA, .tup (SqT.of upd_same) (.cons ((d2.mono e1).mono (Ex.new hF)) (.cons ((e2'.mono e1).mono (Ex.new hF)) .nil))⟩
theorem i_enum {e1 : Expr} {elts : List Expr} {kk : Nat} {tpos : Pos} (hK : T.K = X.K) (hg : Gl X "enumerate") (hm : X.mg "enumerate" = none) (ha : PA X [e1] (tA T W fs)) (hs : starEach [e1] X.env = [(false, eval e1 X.env)] := by rfl) :
    PI X (.Tuple elts kk tpos) (.Call (.Name "enumerate" p) [e1] [] pos) (tI T W (iEnum fs)) :=
  pi_imp (pi_enum hg hm ha hs) fun σ H R ⟨F, ρ, e, vw, hp⟩ => bind_ia e vw hp fun ds vs F' H' g r hq => by
    split at hq
    · rename_i d
      cases r with
      | cons r1 r2 =>
        cases r2
        cases hd : asL d with
        | none => rw [hd] at hq; exact hq.elim
        | some xs =>
          rw [hd] at hq
          obtain ⟨a, us, rfl, h1, h2⟩ := r1.list hd
          rw [hK] at h1
          have hl := h2.length
          refine ⟨a, us, rfl, ex_l g.s h1, hq _ F' H' g (walk_pair walk_enum (fun Hc e => ex_l e h1) ?_ (fun i x hi hx => ?_) fun i y hi hy => h2.get hy)⟩
          · unfold pairs rngD
            rw [List.length_zipWith, List.length_map, List.length_range, hl]
            omega
          · cases hx
            refine ⟨.int ((0 : Int) + (i : Nat)), ?_, by rw [Int.zero_add]; exact .int _⟩
            unfold rngD
            rw [List.getElem?_map, List.getElem?_range (by omega)]
            rfl
    · exact hq.elim
theorem i_zip {e1 e2 : Expr} {elts : List Expr} {kk : Nat} {tpos : Pos} (hK : T.K = X.K) (hg : Gl X "zip") (hm : X.mg "zip" = none) (ha : PA X [e1, e2] (tA T W fs))
    (hs : starEach [e1, e2] X.env = (false, eval e1 X.env) :: starEach [e2] X.env := by rfl) (hpl : (backTo pos (starEach [e2] X.env)).any (·.1) = false := by rfl) :
    PI X (.Tuple elts kk tpos) (.Call (.Name "zip" p) [e1, e2] [] pos) (tI T W (iZip fs)) :=
  pi_imp (pi_zip hg hm ha hs hpl) fun σ H R ⟨F, ρ, e, vw, hp⟩ => bind_ia e vw hp fun ds vs F' H' g r hq => by
    split at hq
    · rename_i d d'
      cases r with
      | cons r1 r2 => cases r2 with
        | cons r2 r3 =>
          cases r3
          cases hd : asL d with
          | none => rw [hd] at hq; exact hq.elim
          | some xs =>
            cases hd' : asL d' with
            | none => rw [hd, hd'] at hq; exact hq.elim
            | some ys =>
              rw [hd, hd'] at hq
              obtain ⟨a, us, rfl, h1, h2⟩ := r1.list hd
              obtain ⟨b, ws, rfl, h3, h4⟩ := r2.list hd'
              rw [hK] at h1 h3
              refine ⟨a, b, us, ws, rfl, ex_l g.s h1, ex_l g.s h3, hq _ F' H' g (walk_pair (walk_zip rfl) (fun Hc e => ⟨ex_l e h1, ex_l e h3⟩) ?_ (fun i x hi hx => h2.get hx) fun i y hi hy => h4.get hy)⟩
              unfold pairs
              rw [List.length_zipWith, h2.length, h4.length]
    · exact hq.elim
end
end G6

namespace G6
open PySem PySem.Spec PyProof.Rows L2

/-! ### for -/
def loopF (is : List Nat) (un : Unp) (g : SemS) : List Da → SemS
  | [], ρ => .nx ρ
  | d :: ds, ρ => match un d with
    | none => .no
    | some xs => if xs.length = is.length then
        (match g (setR ρ is xs) with
        | .nx ρ' => loopF is un g ds ρ'
        | .ct ρ' => loopF is un g ds ρ'
        | .bk ρ' => .nx ρ'
        | .rt s => .rt s
        | .ex c r => .ex c r
        | .no => .no) else .no
def sFor (fI : Rho → Rs (List Da)) (is : List Nat) (un : Unp) (g : SemS) : SemS := fun ρ => match fI (Rho.shs ρ) with
  | .ok items => loopF is un g items ρ
  | .ex c => .ex c ρ
  | .no => .no
section
variable {X : Cx} {T : Tx} {W : WX} {tg iter : Expr} {body : List Stmt} {fI : Rho → Rs (List Da)} {gT : TG} {is : List Nat} {un : Unp} {g : SemS} {pos : Pos}
theorem s_for (hp : PassesOwn (model X.prog X.w) X.A X.env X.xe) (hc : X.calm = true) (hi : PI X tg iter (tI T W fI)) (hg : PG X tg gT) (ht : TgOk T gT is un) (hb : PSs X body (tS T W g))
    (hs : ∀ x, foldedSetIterable iter X.env x = pure x := by intro _; rfl) : PS X (.For tg iter body [] pos) (tS T W (sFor fI is un g)) :=
  ps_imp (ps_for hp hc hi hg hb hs) fun D σ H ⟨F0, H0, F, ρ, ok, hp⟩ => ⟨F, Rho.shs ρ, ok.g.s, ok.viewF, by
    unfold sFor at hp
    cases hf : fI (Rho.shs ρ) with
    | no => rw [hf] at hp; exact hp
    | ex c => rw [hf] at hp; exact post_ex ok hp
    | ok items =>
      rw [hf] at hp
      intro J F1 H1 g1 wk
      refine for_it wk (fun i σ' H' => ∃ F' ρ', Ex F1 F' ∧ EnvOk T F0 H0 F' H' σ' ρ' ∧ PostS T W D F0 H0 F' (loopF is un g (items.drop i) ρ')) ⟨F1, ρ, Ex.refl F1, ok.ext g1, PostS.mono g1.f hp⟩
        (fun i σ' H' _ ⟨F', ρ', e, k, _⟩ => e.trans k.g.s) (fun i x σ' H' H2 hi ⟨F', ρ', e, k, hq⟩ hy => ?_) fun σ' H' ⟨F', ρ', e, k, hq⟩ => ?_
      · obtain ⟨d, F2, h1, h2, h3⟩ := hy F' e k.g.s
        have hd : items.drop i = d :: items.drop (i + 1) := by
          obtain ⟨hl, e1⟩ := List.getElem?_eq_some_iff.mp h1
          rw [List.drop_eq_getElem_cons hl, e1]
        rw [hd] at hq
        unfold loopF at hq
        cases hu : un d with
        | none => rw [hu] at hq; exact hq.elim
        | some xs =>
          rw [hu] at hq
          dsimp only at hq
          by_cases hl : xs.length = is.length
          · rw [if_pos hl] at hq
            refine ht F2 H2 x d xs σ' _ h2.s h3 hu hl fun vs rv => ?_
            refine ⟨F0, H0, F2, setR ρ' is xs, (k.ext h2).setM rv, ?_⟩
            have hq2 := PostS.mono h2.f hq
            cases hgo : g (setR ρ' is xs) with
            | nx ρ2 => rw [hgo] at hq2; exact fun σ3 F3 H3 e3 k3 => ⟨F3, ρ2, (e.trans h2.f).trans e3, k3, PostS.mono e3 hq2⟩
            | ct ρ2 => rw [hgo] at hq2; exact fun σ3 F3 H3 e3 k3 => ⟨F3, ρ2, (e.trans h2.f).trans e3, k3, PostS.mono e3 hq2⟩
            | bk ρ2 => rw [hgo] at hq2; exact hq2
            | rt s => rw [hgo] at hq2; exact hq2
            | ex c s => rw [hgo] at hq2; exact hq2
            | no => rw [hgo] at hq2; exact hq2
          · rw [if_neg hl] at hq; exact hq.elim
      · rw [List.drop_length] at hq
        exact hq σ' F' H' (Ex.refl F') k⟩
end
/-! ### comprehensions -/
theorem tYes_intro {σ : L2.St} {H : Hp} {Q : Bool → Hp → Prop} (h : Q true H) : tYes σ H Q := h
def W0 : WX := fun _ _ _ _ => False
def mapO {α β : Type} (k : α → Option β) : List α → Option (List β)
  | [] => some []
  | d :: ds => (k d).bind fun x => (mapO k ds).map (x :: ·)
theorem mapO_len {α β : Type} {k : α → Option β} : ∀ {ds : List α} {xs : List β}, mapO k ds = some xs → xs.length = ds.length
  | [], _, h => by cases h; rfl
  | d :: ds, xs, h => by
    simp only [mapO] at h
    cases hk : k d with
    | none => rw [hk] at h; cases h
    | some x =>
      rw [hk] at h
      cases hm : mapO k ds with
      | none => rw [hm] at h; cases h
      | some ys => rw [hm] at h; cases h; rw [List.length_cons, List.length_cons, mapO_len hm]
theorem mapO_get {α β : Type} {k : α → Option β} : ∀ {ds : List α} {xs : List β} {i : Nat} {d : α}, mapO k ds = some xs → ds[i]? = some d → ∃ x, xs[i]? = some x ∧ k d = some x
  | [], _, _, _, _, h => by simp at h
  | a :: ds, xs, i, d, h, hd => by
    simp only [mapO] at h
    cases hk : k a with
    | none => rw [hk] at h; cases h
    | some x =>
      rw [hk] at h
      cases hm : mapO k ds with
      | none => rw [hm] at h; cases h
      | some ys =>
        rw [hm] at h; cases h
        cases i with
        | zero =>
          have e : a = d := by simpa using hd
          subst e
          exact ⟨x, by simp, hk⟩
        | succ i =>
          obtain ⟨y, h1, h2⟩ := mapO_get (i := i) hm (by simpa using hd)
          exact ⟨y, by simpa using h1, h2⟩
/-- an element of a comprehension: as data; as a new list -/
def elD (is : List Nat) (un : Unp) (vs : List Nat) (fe : Sem1) (ρ : Rho) (d : Da) : Option Da := match un d with
  | none => none
  | some xs => if xs.length = is.length then (match dat (fe (setR (wipeR ρ vs) is xs)) with
      | .ok y => some y
      | _ => none) else none
def elO (is : List Nat) (un : Unp) (vs : List Nat) (fe : Sem1) (ρ : Rho) (d : Da) : Option (List Da) := match un d with
  | none => none
  | some xs => if xs.length = is.length then (match fe (setR (wipeR ρ vs) is xs) with
      | .ok (.ow ys) => some ys
      | _ => none) else none
def eLc (fI : Rho → Rs (List Da)) (is : List Nat) (un : Unp) (vs : List Nat) (fe : Sem1) : Sem1 := fun ρ => match fI ρ with
  | .ok items => if items.length ≤ 1000000 then (match mapO (elD is un vs fe ρ) items with
      | some xs => .ok (.ow xs)
      | none => .no) else .no
  | .ex c => .ex c
  | .no => .no
def eLc2 (fI : Rho → Rs (List Da)) (is : List Nat) (un : Unp) (vs : List Nat) (fe : Sem1) : Sem1 := fun ρ => match fI ρ with
  | .ok items => if items.length ≤ 1000000 then (match mapO (elO is un vs fe ρ) items with
      | some xs => .ok (.ow2 xs)
      | none => .no) else .no
  | .ex c => .ex c
  | .no => .no
theorem take_snoc {α : Type} {l : List α} {i : Nat} {x : α} (h : l[i]? = some x) : l.take (i + 1) = l.take i ++ [x] := by
  rw [List.take_add_one, h]; rfl
section
variable {T : Tx} {W : WX} {fI : Rho → Rs (List Da)} {gT : TG} {is : List Nat} {un : Unp} {vs : List Nat} {fe : Sem1}
theorem lc_core1 (ht : TgOk T gT is un) (hv : ∀ i ∈ is, i ∈ vs) : ∀ σ H Q, tD T W (eLc fI is un vs fe) σ H Q → tLc (tI T W fI) gT tYes (tD T W0 fe) vs σ H Q := fun σ H Q ⟨F, ρ, e, vw, hp⟩ => ⟨F, ρ, e, vw, by
  unfold eLc at hp
  cases hf : fI ρ with
  | no => rw [hf] at hp; exact hp
  | ex c => rw [hf] at hp; exact hp
  | ok items =>
    rw [hf] at hp
    dsimp only at hp
    by_cases hz : items.length ≤ 1000000
    · rw [if_pos hz] at hp
      cases hm : mapO (elD is un vs fe ρ) items with
      | none => rw [hm] at hp; exact hp.elim
      | some ys =>
        rw [hm] at hp
        intro J F1 H1 g1 wk D hD
        have hFD : F1 D = none := g1.s.back hD
        refine lc_it wk (fun i Hc => ∃ Fc us, Grow F1 H1 Fc Hc ∧ Fc D = none ∧ Hc D = some (.lst us) ∧ RepAll T Fc us (ys.take i)) ⟨F1, [], Grow.own g1.s hD, hFD, upd_same, .nil⟩
          (fun i Hc _ ⟨Fc, us, g, _⟩ => g.e) (fun i x Hc H2 hi ⟨Fc, us, g, hn, hl, r⟩ hy => ?_) fun Hc ⟨Fc, us, g, hn, hl, r⟩ => ?_
        · obtain ⟨d, F2, h1, h2, h3⟩ := hy Fc g.f g.s
          obtain ⟨y, hy1, hy2⟩ := mapO_get hm h1
          unfold elD at hy2
          cases hu : un d with
          | none => rw [hu] at hy2; cases hy2
          | some xs =>
            rw [hu] at hy2
            dsimp only at hy2
            by_cases hlen : xs.length = is.length
            · rw [if_pos hlen] at hy2
              refine ht F2 H2 x d xs _ _ h2.s h3 hu hlen fun zs rz => ⟨by rw [wipe_setV hv, wipe_wipe], ?_⟩
              refine tYes_intro ?_
              rw [if_pos rfl]
              have gF : Grow F H F2 H2 := (g1.trans g).trans h2
              refine ⟨F2, setR (wipeR ρ vs) is xs, h2.s, ((vw.mono gF.f).wipe vs).setM rz, ?_⟩
              cases hfe : fe (setR (wipeR ρ vs) is xs) with
              | no => rw [hfe] at hy2; cases hy2
              | ex c => rw [hfe] at hy2; cases hy2
              | ok s =>
                rw [hfe] at hy2
                cases hv' : s.view with
                | none => simp only [dat, hv'] at hy2; cases hy2
                | some y' =>
                  simp only [dat, hv', Option.some.injEq] at hy2
                  subst hy2
                  intro v F3 H3 g3 r3
                  obtain ⟨F4, g4, r4⟩ := r3.see g3 hv'
                  have hD2 : H2 D = some (.lst us) := h2.h _ _ hl
                  have hD3 : H3 D = some (.lst us) := g3.h _ _ hD2
                  have hF4 : F4 D = none := by
                    cases z : F4 D with
                    | none => rfl
                    | some o =>
                      rcases g4.n D o z with q | q
                      · rcases h2.n D o q with q' | q'
                        · rw [hn] at q'; cases q'
                        · rw [hl] at q'; cases q'
                      · rw [hD2] at q; cases q
                  have hlen2 : us.length ≤ 1000000 := by
                    rw [r.length, List.length_take, mapO_len hm]
                    omega
                  refine ⟨us, hD3, Nat.lt_of_le_of_lt hlen2 (by decide), F4, us ++ [v], ?_, hF4, upd_same, ?_⟩
                  · have gg : Grow F1 H1 F4 H3 := (g.trans h2).trans g4
                    exact ⟨gg.f, Ex.mut gg.h hD, Ex.mut gg.s hF4, gg.n⟩
                  · rw [take_snoc hy1]
                    exact (r.mono (h2.f.trans g4.f)).append (.cons r4 .nil)
            · rw [if_neg hlen] at hy2; cases hy2
        · refine hp (.ref D) Fc Hc (g1.trans g) ⟨D, us, rfl, g1.h.back hD, hn, hl, ?_⟩
          rw [← mapO_len hm, List.take_length] at r
          exact r
    · rw [if_neg hz] at hp; exact hp.elim⟩
theorem lc_core2 (ht : TgOk T gT is un) (hv : ∀ i ∈ is, i ∈ vs) : ∀ σ H Q, tD T W (eLc2 fI is un vs fe) σ H Q → tLc (tI T W fI) gT tYes (tD T W0 fe) vs σ H Q := fun σ H Q ⟨F, ρ, e, vw, hp⟩ => ⟨F, ρ, e, vw, by
  unfold eLc2 at hp
  cases hf : fI ρ with
  | no => rw [hf] at hp; exact hp
  | ex c => rw [hf] at hp; exact hp
  | ok items =>
    rw [hf] at hp
    dsimp only at hp
    by_cases hz : items.length ≤ 1000000
    · rw [if_pos hz] at hp
      cases hm : mapO (elO is un vs fe ρ) items with
      | none => rw [hm] at hp; exact hp.elim
      | some ys =>
        rw [hm] at hp
        intro J F1 H1 g1 wk D hD
        have hFD : F1 D = none := g1.s.back hD
        refine lc_it wk (fun i Hc => ∃ Fc as, Grow F1 H1 Fc Hc ∧ Fc D = none ∧ Hc D = some (.lst (as.map V.ref)) ∧ (D :: as).Nodup ∧ (∀ a ∈ as, H1 a = none ∧ Fc a = none) ∧ Rows T Fc Hc as (ys.take i))
          ⟨F1, [], Grow.own g1.s hD, hFD, upd_same, List.nodup_cons.mpr ⟨List.not_mem_nil, List.Pairwise.nil⟩, fun a ha => absurd ha List.not_mem_nil, trivial⟩
          (fun i Hc _ ⟨Fc, us, g, _⟩ => g.e) (fun i x Hc H2 hi ⟨Fc, as, g, hn, hl, nd, ha, r⟩ hy => ?_) fun Hc ⟨Fc, as, g, hn, hl, nd, ha, r⟩ => ?_
        · obtain ⟨d, F2, h1, h2, h3⟩ := hy Fc g.f g.s
          obtain ⟨y, hy1, hy2⟩ := mapO_get hm h1
          unfold elO at hy2
          cases hu : un d with
          | none => rw [hu] at hy2; cases hy2
          | some xs =>
            rw [hu] at hy2
            dsimp only at hy2
            by_cases hlen : xs.length = is.length
            · rw [if_pos hlen] at hy2
              refine ht F2 H2 x d xs _ _ h2.s h3 hu hlen fun zs rz => ⟨by rw [wipe_setV hv, wipe_wipe], ?_⟩
              refine tYes_intro ?_
              rw [if_pos rfl]
              have gF : Grow F H F2 H2 := (g1.trans g).trans h2
              refine ⟨F2, setR (wipeR ρ vs) is xs, h2.s, ((vw.mono gF.f).wipe vs).setM rz, ?_⟩
              cases hfe : fe (setR (wipeR ρ vs) is xs) with
              | no => rw [hfe] at hy2; cases hy2
              | ex c => rw [hfe] at hy2; cases hy2
              | ok s =>
                rw [hfe] at hy2
                cases s with
                | dead => cases hy2
                | sh _ => cases hy2
                | ow2 _ => cases hy2
                | ow zs' =>
                  cases hy2
                  intro v F3 H3 g3 r3
                  obtain ⟨p, us, rfl, p1, p2, p3, p4⟩ := r3
                  have hD2 : H2 D = some (.lst (as.map V.ref)) := h2.h _ _ hl
                  have hD3 : H3 D = some (.lst (as.map V.ref)) := g3.h _ _ hD2
                  have away : ∀ a o, Fc a = none → Hc a = some o → F3 a = none := fun a o z1 z2 => by
                    cases z : F3 a with
                    | none => rfl
                    | some o' =>
                      rcases g3.n a o' z with q | q
                      · rcases h2.n a o' q with q' | q'
                        · rw [z1] at q'; cases q'
                        · rw [z2] at q'; cases q'
                      · rw [h2.h _ _ z2] at q; cases q
                  have hlen2 : (as.map V.ref).length ≤ 1000000 := by
                    rw [List.length_map, r.length, List.length_take, mapO_len hm]
                    omega
                  have pD : p ≠ D := fun z => by rw [z, hD2] at p1; cases p1
                  have pas : p ∉ as := fun z => by
                    obtain ⟨o, ho⟩ := r.some_ p z
                    rw [h2.h _ _ ho] at p1; cases p1
                  obtain ⟨nd1, nd2⟩ := List.nodup_cons.mp nd
                  refine ⟨as.map V.ref, hD3, Nat.lt_of_le_of_lt hlen2 (by decide), F3, as ++ [p], ?_, away D _ hn hl, ?_, ?_, ?_, ?_⟩
                  · have gg : Grow F1 H1 F3 H3 := (g.trans h2).trans g3
                    exact ⟨gg.f, Ex.mut gg.h hD, Ex.mut gg.s (away D _ hn hl), gg.n⟩
                  · rw [upd_same, List.map_append]; rfl
                  · refine List.nodup_cons.mpr ⟨fun z => ?_, ?_⟩
                    · rcases List.mem_append.mp z with z | z
                      · exact nd1 z
                      · exact pD (List.mem_singleton.mp z).symm
                    · refine List.nodup_append.mpr ⟨nd2, List.nodup_cons.mpr ⟨List.not_mem_nil, List.Pairwise.nil⟩, fun a ha b hb e => ?_⟩
                      rw [List.mem_singleton.mp hb] at e
                      exact pas (e ▸ ha)
                  · intro a ha'
                    rcases List.mem_append.mp ha' with z | z
                    · obtain ⟨o, ho⟩ := r.some_ a z
                      exact ⟨(ha a z).1, away a o (ha a z).2 ho⟩
                    · rw [List.mem_singleton.mp z]
                      exact ⟨(g.trans h2).h.back p1, p2⟩
                  · rw [take_snoc hy1]
                    have rows_app : ∀ {as : List Addr} {xss : List (List Da)} {H : Hp} {p : Addr} {us : List V} {z : List Da}, Rows T F3 H as xss → H p = some (.lst us) → RepAll T F3 us z → Rows T F3 H (as ++ [p]) (xss ++ [z]) := by
                      intro as
                      induction as with
                      | nil =>
                        intro xss H p us z h1 h2 h3
                        cases xss with
                        | nil => exact ⟨⟨us, h2, h3⟩, trivial⟩
                        | cons _ _ => exact h1.elim
                      | cons a as ih =>
                        intro xss H p us z h1 h2 h3
                        cases xss with
                        | nil => exact h1.elim
                        | cons x xss => exact ⟨h1.1, ih h1.2 h2 h3⟩
                    refine rows_app (us := us) (Rows.mono (h2.f.trans g3.f) (fun a ha' => ?_) r) (by rw [upd_ne pD]; exact p3) p4
                    obtain ⟨o, ho⟩ := r.some_ a ha'
                    have : a ≠ D := fun z => nd1 (z ▸ ha')
                    rw [upd_ne this, ho]
                    exact g3.h _ _ (h2.h _ _ ho)
            · rw [if_neg hlen] at hy2; cases hy2
        · refine hp (.ref D) Fc Hc (g1.trans g) ⟨D, as, rfl, g1.h.back hD, hn, hl, nd, fun a z => ⟨g1.h.back (ha a z).1, (ha a z).2⟩, ?_⟩
          rw [← mapO_len hm, List.take_length] at r
          exact r
    · rw [if_neg hz] at hp; exact hp.elim⟩
end
section
variable {X : Cx} {T : Tx} {W : WX} {fI : Rho → Rs (List Da)} {gT : TG} {is : List Nat} {un : Unp} {fe : Sem1} {elt tg iter : Expr} {scope : Scope} {own : List (Str × Nat)} {pos : Pos}
theorem e_lc (hc : X.calm = true) (hN : X.N.Nodup) (hi : PI X tg iter (tI T W fI)) (ok : BlkOk X.N X.env.scope scope own) (ht : TgOk T gT is un) (hv : ∀ i ∈ is, i ∈ own.map (·.2))
    (hg : ∀ (s : Shared) (H : Hp) (C : Addr) (cl : List (Str × Addr)) (fp : List Addr), PG (X.blk s H scope (compEnvC scope cl C X.env) fp) tg gT)
    (he : ∀ (s : Shared) (H : Hp) (C : Addr) (cl : List (Str × Addr)) (fp : List Addr), PE (X.blk s H scope (compEnvC scope cl C X.env) fp) elt (tD T W0 fe)) (hs : ∀ x, foldedSetIterable iter X.env x = pure x := by intro _; rfl) :
    PE X (.ListComp elt [⟨tg, iter, [], 0⟩] scope pos) (tD T W (eLc fI is un (own.map (·.2)) fe)) :=
  pe_imp (pe_lc hc hN hi ok hg (fun _ _ _ _ _ => pts_nil) he hs) (lc_core1 ht hv)
theorem e_lc2 (hc : X.calm = true) (hN : X.N.Nodup) (hi : PI X tg iter (tI T W fI)) (ok : BlkOk X.N X.env.scope scope own) (ht : TgOk T gT is un) (hv : ∀ i ∈ is, i ∈ own.map (·.2))
    (hg : ∀ (s : Shared) (H : Hp) (C : Addr) (cl : List (Str × Addr)) (fp : List Addr), PG (X.blk s H scope (compEnvC scope cl C X.env) fp) tg gT)
    (he : ∀ (s : Shared) (H : Hp) (C : Addr) (cl : List (Str × Addr)) (fp : List Addr), PE (X.blk s H scope (compEnvC scope cl C X.env) fp) elt (tD T W0 fe)) (hs : ∀ x, foldedSetIterable iter X.env x = pure x := by intro _; rfl) :
    PE X (.ListComp elt [⟨tg, iter, [], 0⟩] scope pos) (tD T W (eLc2 fI is un (own.map (·.2)) fe)) :=
  pe_imp (pe_lc hc hN hi ok hg (fun _ _ _ _ _ => pts_nil) he hs) (lc_core2 ht hv)
variable {i : Nat} {y : Str} {py spos : Pos} {full : Bool} {fL : Sem1}
/-- name = [..] on one line -/
theorem s_lc {k : SemS} (hcore : ∀ D σ H, tS T W k D σ H → tD T W fL σ H fun x H1 => D.nx (σ.set i (some x)) H1) (hl : ∀ σ H Q, tD T W fL σ H Q → tLc (tI T W fI) gT tYes (tD T W0 fe) (own.map (·.2)) σ H Q)
    (hc : X.calm = true) (hN : X.N.Nodup) (hy : X.N[i]? = some y) (hyl : X.env.scope.names.lookup y = some .local) (hsw : swapsWith (.ListComp elt [⟨tg, iter, [], 0⟩] scope pos) (some (.Name y py)) spos.line X.env = pure true)
    (hi : PI X tg iter (tI T W fI)) (ok : BlkOk X.N X.env.scope scope own)
    (hg : ∀ (s : Shared) (H : Hp) (C : Addr) (cl : List (Str × Addr)) (fp : List Addr), PG (X.blk s H scope (compEnvC scope cl C X.env) fp) tg gT)
    (he : ∀ (s : Shared) (H : Hp) (C : Addr) (cl : List (Str × Addr)) (fp : List Addr), PE (X.blk s H scope (compEnvC scope cl C X.env) fp) elt (tD T W0 fe)) (hs : ∀ x, foldedSetIterable iter X.env x = pure x := by intro _; rfl) :
    PS X (.Assign [.Name y py] (.ListComp elt [⟨tg, iter, [], 0⟩] scope pos) spos) (tS T W k) :=
  ps_imp (ps_setLc hc hN hy hyl hsw hi ok hg (fun _ _ _ _ _ => pts_nil) he hs) fun D σ H h => hl σ H _ (hcore D σ H h)
end
end G6

namespace G6
open PySem PySem.Spec PyProof.Rows L2

/-! ### isinstance(x, T), T built in -/
inductive Ty where
  | int | bool | list | tuple | str
def Ty.name : Ty → String
  | .int => "int"
  | .bool => "bool"
  | .list => "list"
  | .tuple => "tuple"
  | .str => "str"
def isiB : Ty → Da → Option Bool
  | .int, .int _ => some true
  | .int, .bl _ => some true
  | .bool, .bl _ => some true
  | .list, .lst _ => some true
  | .list, .scr _ => some true
  | .tuple, .tup _ => some true
  | .tuple, .kt _ => some true
  | .str, .str _ => some true
  | _, .even _ => none
  | _, .unl _ _ => none
  | _, .err => none
  | _, _ => some false
def tyOf : Da → String
  | .non => "NoneType"
  | .bl _ => "bool"
  | .int _ => "int"
  | .str _ => "str"
  | .lst _ => "list"
  | .scr _ => "list"
  | .tup _ => "tuple"
  | .kt _ => "tuple"
  | .emp => "dict"
  | _ => ""
def kIsi (t : Ty) (d : Da) : Option Sl := (isiB t d).map fun b => .sh (.bl b)
theorem kit_all : ∀ t ∈ ["NoneType", "bool", "int", "str", "list", "tuple", "dict"], ∀ n ∈ ["int", "bool", "list", "tuple", "str"], kitB t n = some ((t == n) || (t == "bool" && n == "int")) := by decide +kernel
theorem isi_kit {t : Ty} {d : Da} {b : Bool} (h : isiB t d = some b) : kitB (tyOf d) t.name = some b := by
  cases t <;> cases d <;> first | (cases h; done) | (simp only [isiB, Option.some.injEq] at h; subst h; exact kit_all _ (by simp [tyOf]) _ (by simp [Ty.name]))
section
variable {X : Cx} {T : Tx} {W : WX} {a : Expr} {f : Sem1} {p p2 pos : Pos}
theorem Rep.ty {H : Hp} {v : V} {d : Da} (r : Rep T H v d) (he : ∀ x, d ≠ .even x) (hu : ∀ x y, d ≠ .unl x y) (hx : d ≠ .err) : TyX T.K H v (.type (tyOf d)) := by
  cases r with
  | non => exact .base .non
  | bl b => exact .base (.bl b)
  | int i => exact .base (.int i)
  | str s => exact .base (.str s)
  | lst h _ => exact .base (.lst h)
  | tup h _ =>
    rcases h with (h | ⟨o, h⟩) | ⟨o, its, n, h1, h2, _⟩
    · exact .base (.tup h)
    · exact .fTuple h
    · exact .kTuple h1 h2
  | kt h1 h2 _ _ _ => exact .kTuple h1 h2
  | scr h =>
    rcases h with (h | ⟨o, h⟩) | ⟨o, its, n, h1, h2, _⟩
    · exact .base (.lst h)
    · exact .base (.frz h)
    · exact .kList h1 h2
  | emp h => exact .base (.dK h)
  | even _ _ => exact (he _ rfl).elim
  | unl _ _ _ => exact (hu _ _ rfl).elim
  | err _ => exact (hx rfl).elim
theorem e_isi {t : Ty} {n : Str} (hK : T.K = X.K) (hg : Gl X "isinstance") (hm : X.mg "isinstance" = none) (ha : PE X a (tD T W f)) (hg2 : Gl X n) (hm2 : X.mg n = none) (hv2 : bootBuiltins n = some (.type t.name))
    (hn2 : n ≠ "__name__" := by decide) (hd2 : (n == ("__debug__" : Str)) = false := by decide) (hb : bootBuiltins "isinstance" = some (.builtin "isinstance") := by decide +kernel)
    (hs1 : starEach [.Name n p2] X.env = (false, eval (.Name n p2) X.env) :: starEach [] X.env := by rfl)
    (he : starEach (a :: [.Name n p2]) X.env = (false, eval a X.env) :: starEach [.Name n p2] X.env := by rfl) (hpl : (backTo pos (starEach [.Name n p2] X.env)).any (·.1) = false := by rfl) :
    PE X (.Call (.Name "isinstance" p) [a, .Name n p2] [] pos) (tD T W (eUn (kIsi t) f)) :=
  pe_imp (pe_callB call_isi hg hm hb (pa_cons ha (pa_cons (pe_bltn (v := .ty t.name) hg2 hm2 hv2 rfl hn2 hd2) pa_nil hs1) he) (by decide) (by decide) he hpl) fun σ H Q ⟨F, ρ, e, vw, hp⟩ => by
    refine bind_d e vw hp fun d v F1 H1 g1 r1 hp1 => ?_
    unfold kIsi at hp1
    cases hb : isiB t d with
    | none => rw [hb] at hp1; exact hp1.elim
    | some b =>
      rw [hb] at hp1
      refine ⟨v, .ty t.name, .type (tyOf d), .type t.name, b, rfl, .ty _, ?_, kit_ty (isi_kit hb), post_sh g1.s (.bl b) hp1⟩
      rw [← hK]
      refine (r1.mono g1.s).ty (fun x z => ?_) (fun x y z => ?_) fun z => ?_
      · subst z; cases t <;> cases hb
      · subst z; cases t <;> cases hb
      · subst z; cases t <;> cases hb
end

/-! ### raise -/
section
variable {X : Cx} {T : Tx} {W : WX} {C : Addr} {bmB : List Value} {B newId initId : String}
theorem s_raise {x m : Str} {j : Nat} {p p2 pos pos2 : Pos} (hmg : T.mg = X.mg) (hc : X.calm = true) (tk : L2N.Takes X W) (Fx : ExcBaseFacts B newId initId bmB) (q : PySem.W.excIn X.K C bmB newId = true) (gC : X.mg x = some (.ref C))
    (kC : PySem.W.keepIn X.K (.ref C) = true) (r : Raises X (.ref C)) (hg : Gl X x) (hdb : (x == ("__debug__" : Str)) = false := by decide) :
    PS X (.Raise (some (.Call (.Name x p) [.Constant (.str m) j p2] [] pos)) none pos2) (tS T W (sRaise x)) :=
  ps_imp (L2N.ps_raise hc tk (L2N.pmk_own Fx q gC kC r hg hdb)) fun D σ H ⟨F0, H0, F, ρ, ok, hp⟩ => hp C σ F H (by rw [hmg]; exact gC) (Ex.refl F) ok
end

/-! ### slices -/
def oNone : Rho → Rs (Option Int) := fun _ => .ok none
def oSome (f : Sem1) : Rho → Rs (Option Int) := fun ρ => (dat (f ρ)).bind fun d => match d with
  | .int i => .ok (some i)
  | _ => .no
def cut {α : Type} (xs : List α) (lo hi : Option Int) : List α := (xs.drop (HT.sIx xs.length 0 lo)).take (HT.sIx xs.length xs.length hi - HT.sIx xs.length 0 lo)
def eSl (f : Sem1) (lo hi : Rho → Rs (Option Int)) : Sem1 := fun ρ => (dat (f ρ)).bind fun d => (lo ρ).bind fun l => (hi ρ).bind fun h => match asL d with
  | some xs => .ok (.ow (cut xs l h))
  | none => .no
section
variable (T : Tx) (W : WX)
def PostO (σ : St) (F H : Hp) (Q : Option Int → Hp → Prop) : Rs (Option Int) → Prop
  | .ok b => ∀ F' H', Grow F H F' H' → Q b H'
  | .ex c => PEx T W σ H c
  | .no => False
def tO (f : Rho → Rs (Option Int)) : TO := fun σ H Q => ∃ F ρ, Ex F H ∧ View T F σ ρ ∧ PostO T W σ F H Q (f ρ)
end
section
variable {X : Cx} {T : Tx} {W : WX} {e : Expr} {f : Sem1} {lo hi : Option Expr} {fl fh : Rho → Rs (Option Int)} {p2 pos : Pos}
theorem po_imp {e : Option Expr} {t t' : TO} (h : PO X e t) (i : ∀ σ H Q, t' σ H Q → t σ H Q) : PO X e t' := ⟨fun pins s σ H Q I hw => h.run pins s σ H Q I (i σ H Q hw)⟩
theorem o_none : PO X none (tO T W oNone) := po_imp po_none fun σ H Q ⟨F, ρ, e, vw, hp⟩ => hp F H (Grow.refl e)
theorem o_some (h : PE X e (tD T W f)) : PO X (some e) (tO T W (oSome f)) := po_imp (po_some h) fun σ H Q ⟨F, ρ, e, vw, hp⟩ =>
  seq_d (P := PostO T W σ F H Q) e vw hp (fun z => z) (fun _ z => z) fun d v F' H' g r hq => by
    cases r with
    | int i => exact ⟨i, rfl, hq F' H' g⟩
    | _ => exact hq.elim
theorem bind_o {f : Rho → Rs (Option Int)} {k : Option Int → Rs Sl} {Q : VK} {Q' : Option Int → Hp → Prop} {σ : St} {F H : Hp} {ρ : Rho} (e : Ex F H) (vw : View T F σ ρ) (hp : Post T W σ F H Q ((f ρ).bind k))
    (q : ∀ b F' H', Grow F H F' H' → Post T W σ F' H' Q (k b) → Q' b H') : tO T W f σ H Q' := by
  refine ⟨F, ρ, e, vw, ?_⟩
  cases hf : f ρ with
  | no => rw [hf] at hp; exact hp.elim
  | ex c => rw [hf] at hp; exact hp
  | ok b =>
    rw [hf] at hp
    intro F' H' g
    exact q b F' H' g (Post.mono g hp)
theorem e_sl (hK : T.K = X.K) (he : PE X e (tD T W f)) (hl : PO X lo (tO T W fl)) (hh : PO X hi (tO T W fh)) : PE X (.Subscript e (.Slice lo hi none p2) pos) (tD T W (eSl f fl fh)) :=
  pe_imp (pe_slice sl_list he hl hh) fun σ H Q ⟨F, ρ, e, vw, hp⟩ => by
    refine bind_d e vw hp fun d v F1 H1 g1 r1 hp1 => ?_
    refine bind_o g1.s (vw.mono g1.f) hp1 fun l F2 H2 g2 hp2 => ?_
    refine bind_o g2.s ((vw.mono g1.f).mono g2.f) hp2 fun h F3 H3 g3 hp3 => ?_
    cases hd : asL d with
    | none => rw [hd] at hp3; exact hp3.elim
    | some xs =>
      rw [hd] at hp3
      obtain ⟨a, vs, rfl, h1, h2⟩ := (r1.mono (g2.f.trans g3.f)).list hd
      rw [hK] at h1
      refine ⟨a, vs, rfl, ex_l g3.s h1, fun p hn => new_ow g3.s ?_ hp3 hn⟩
      unfold cutV cut
      rw [h2.length]
      exact (h2.drop _).take _
/-- xs[::-1] -/
def kRev (d : Da) : Option Sl := (asL d).map fun xs => .ow xs.reverse
theorem e_rev {k : Nat} {p1 p2 p3 : Pos} (hK : T.K = X.K) (he : PE X e (tD T W f)) : PE X (.Subscript e (.Slice none none (some (.UnaryOp .USub (.Constant (.int 1) k p1) p2)) p3) pos) (tD T W (eUn kRev f)) :=
  pe_imp (pe_revL he) fun σ H Q ⟨F, ρ, e, vw, hp⟩ => by
    refine bind_d e vw hp fun d v F1 H1 g1 r1 hp1 => ?_
    unfold kRev at hp1
    cases hd : asL d with
    | none => rw [hd] at hp1; exact hp1.elim
    | some xs =>
      rw [hd] at hp1
      obtain ⟨a, vs, rfl, h1, h2⟩ := r1.list hd
      rw [hK] at h1
      exact ⟨a, vs, rfl, ex_l g1.s h1, fun p hn => new_ow g1.s h2.reverse hp1 hn⟩
end

/-! ### subscripts -/
section
variable {X : Cx} {T : Tx} {W : WX} {a b c : Expr} {f g h : Sem1} {pos : Pos}
theorem e_ix (hK : T.K = X.K) (ha : PE X a (tD T W f)) (hb : PE X b (tD T W g)) (hs : PlainIx b := by exact fun _ _ => rfl) : PE X (.Subscript a b pos) (tD T W (eOp kIx f g)) :=
  pe_imp (pe_ix (r := rIxA T.K) (by rw [hK]; exact ix_all) ha hb hs) (op_core rd_ix)
/-! ### chains -/
def eCh (k k' : Da → Da → Option Sl) (f g h : Sem1) : Sem1 := fun ρ => (dat (f ρ)).bind fun x => (dat (g ρ)).bind fun y => match k x y with
  | some (.sh (.bl true)) => (dat (h ρ)).bind fun z => ofO (k' y z)
  | some (.sh (.bl false)) => .ok (.sh (.bl false))
  | _ => .no
theorem chain_core {r r' : R2} {k k' : Da → Da → Option Sl} (hr : RD2 T r k) (hr' : RD2 T r' k') : ∀ σ H Q, tD T W (eCh k k' f g h) σ H Q → tChain r r' (tD T W f) (tD T W g) (tD T W h) σ H Q := fun σ H Q ⟨F, ρ, e, vw, hp⟩ => by
  refine bind_d e vw hp fun x v1 F1 H1 g1 r1 hp1 => ?_
  refine bind_d g1.s (vw.mono g1.f) hp1 fun y v2 F2 H2 g2 r2 hp2 => ?_
  cases hk : k x y with
  | none => rw [hk] at hp2; exact hp2.elim
  | some s =>
    rw [hk] at hp2
    cases s with
    | sh d => cases d with
      | bl b =>
        refine hr F2 H2 v1 v2 x y _ _ g2.s (r1.mono g2.f) r2 hk fun v F3 H3 g3 r3 => ?_
        have r3' : Rep T F3 v (.bl b) := r3
        cases r3'
        refine ⟨b, rfl, ?_⟩
        cases b with
        | false => rw [if_neg Bool.false_ne_true]; exact post_sh g3.s (.bl false) (Post.mono g3 hp2)
        | true =>
          rw [if_pos rfl]
          refine bind_d g3.s ((vw.mono g1.f).mono (g2.f.trans g3.f)) (Post.mono g3 hp2) fun z v3 F4 H4 g4 r4 hp4 => ?_
          cases hk' : k' y z with
          | none => rw [hk'] at hp4; exact hp4.elim
          | some s => rw [hk'] at hp4; exact hr' F4 H4 v2 v3 y z s Q g4.s (r2.mono (g3.f.trans g4.f)) r4 hk' hp4
      | _ => exact hp2.elim
    | _ => exact hp2.elim
theorem e_chain {op op' : CmpOp} {r r' : R2} {k k' : Da → Da → Option Sl} (hr : RD2 T r k) (hr' : RD2 T r' k') (ho : OpR X (compareOp op) r) (ho' : OpR X (compareOp op') r') (ha : PE X a (tD T W f)) (hb : PE X b (tD T W g)) (hc : PE X c (tD T W h))
    (hm : lastMarks [op, op'] [b, c] = false := by with_unfolding_all rfl) : PE X (.Compare a [op, op'] [b, c] pos) (tD T W (eCh k k' f g h)) := pe_imp (pe_chain ho ho' ha hb hc hm) (chain_core hr hr')
theorem t_chain {op op' : CmpOp} {r r' : R2} {k k' : Da → Da → Option Sl} (hr : RD2 T r k) (hr' : RD2 T r' k') (ho : OpR X (compareOp op) r) (ho' : OpR X (compareOp op') r') (ha : PE X a (tD T W f)) (hb : PE X b (tD T W g)) (hc : PE X c (tD T W h))
    (hm : lastMarks [op, op'] [b, c] = false := by with_unfolding_all rfl) : PT X (.Compare a [op, op'] [b, c] pos) (tT T W (fB (eCh k k' f g h))) :=
  pt_imp (pt_chain ho ho' ha hb hc hm) fun σ H Q q => chain_core hr hr' σ H _ (b_core σ H q)
end

/-! ### a, b = e -/
def sTgt (is : List Nat) (un : Unp) (full : Bool) (f : Sem1) : SemS := fun ρ => match dat (stf full f ρ) with
  | .ok d => (match un d with
    | some ds => if ds.length = is.length then .nx (setR ρ is ds) else .no
    | none => .no)
  | .ex c => .ex c ρ
  | .no => .no
/-- a, b = e1, e2 -/
def sPar (i j : Nat) (fs : Rho → Rs (List Da)) : SemS := fun ρ => match fs (Rho.shs ρ) with
  | .ok [d, e] => .nx ((ρ.set i (.sh d)).set j (.sh e))
  | .ex c => .ex c ρ
  | _ => .no
section
variable {X : Cx} {T : Tx} {W : WX} {tg e : Expr} {f : Sem1} {gT : TG} {is : List Nat} {un : Unp} {full : Bool} {pos : Pos} {fs : Rho → Rs (List Da)}
theorem s_tgt (he : PE X e (tD T W f)) (hg : PG X tg gT) (ht : TgOk T gT is un) (hs : swapsWithSole [tg] e pos.line X.env = pure false := by rfl) (hw : swappedStores [tg] e X.env = pure none := by rfl)
    (h1 : (assignEach [tg] X.env).map (·.2) = [assign tg X.env] := by rfl) : PS X (.Assign [tg] e pos) (tS T W (sTgt is un full f)) :=
  ps_imp (ps_asg he hg hs hw h1) fun D σ H ⟨F0, H0, F, ρ, ok, hp⟩ => by
    refine run_st (P := fun r => PostS T W D F0 H0 F (match dat r with | .ok d => (match un d with | some ds => if ds.length = is.length then .nx (setR ρ is ds) else .no | none => .no) | .ex c => .ex c ρ | .no => .no)) ok hp (fun z => z) (fun c z => post_ex ok z) fun s v F' H' g r hq => ?_
    cases hv : s.view with
    | none => simp only [dat, hv] at hq; exact hq.elim
    | some d =>
      simp only [dat, hv] at hq
      obtain ⟨F2, g2, r2⟩ := r.see g hv
      cases hu : un d with
      | none => rw [hu] at hq; exact hq.elim
      | some ds =>
        rw [hu] at hq
        dsimp only at hq
        by_cases hl : ds.length = is.length
        · rw [if_pos hl] at hq
          exact ht F2 H' v d ds σ _ g2.s r2 hu hl fun vs rv => hq _ F2 H' g2.f ((ok.ext g2).setM rv)
        · rw [if_neg hl] at hq; exact hq.elim
theorem s_par {i j : Nat} {x y : Str} {a b : Expr} {px py pt : Pos} {kt k2 pt2} (hc : X.calm = true) (hN : X.N.Nodup) (hi : X.N[i]? = some x) (hj : X.N[j]? = some y) (hij : i ≠ j)
    (hx : X.env.scope.names.lookup x = some .local) (hy : X.env.scope.names.lookup y = some .local) (ha : PA X [a, b] (tA T W fs))
    (hw : swappedStores [.Tuple [.Name x px, .Name y py] kt pt] (.Tuple [a, b] k2 pt2) X.env = pure (some [x, y]) := by rfl)
    (hs : swapsWithSole [.Tuple [.Name x px, .Name y py] kt pt] (.Tuple [a, b] k2 pt2) pos.line X.env = pure false := by rfl) :
    PS X (.Assign [.Tuple [.Name x px, .Name y py] kt pt] (.Tuple [a, b] k2 pt2) pos) (tS T W (sPar i j fs)) :=
  ps_imp (ps_par hc hN hi hj hij hx hy ha hw hs) fun D σ H ⟨F0, H0, F, ρ, ok, hp⟩ => ⟨F, Rho.shs ρ, ok.g.s, ok.viewF, by
    unfold sPar at hp
    cases hf : fs (Rho.shs ρ) with
    | no => rw [hf] at hp; exact hp
    | ex c => rw [hf] at hp; exact post_ex ok hp
    | ok ds =>
      rw [hf] at hp
      intro vs F' H' g r
      match ds, r, hp with
      | [d, e], .cons r1 (.cons r2 .nil), hp => exact ⟨_, _, rfl, hp _ F' H' g.f (((ok.ext g).putD r1).putD r2)⟩
      | [], _, hp => exact hp.elim
      | [_], _, hp => exact hp.elim
      | _ :: _ :: _ :: _, _, hp => exact hp.elim⟩
end
end G6

namespace G6
open PySem PySem.Spec PyProof.Rows L2

/-! ### a module's constant -/
section
variable {X : Cx} {T : Tx} {W : WX} {a b c d : Expr} {f g h k : Sem1} {pos p : Pos}
theorem e_globI {x : Str} {i : Int} {t : Tok} (hg : Gl X x) (hm : X.mg x = some (.int i t)) (hd : (x == ("__debug__" : Str)) = false := by decide) : PE X (.Name x pos) (tD T W (eC (.int i))) :=
  pe_imp (pe_glob (v := .int i) hg hm ⟨t, rfl⟩ hd) fun σ H Q ⟨F, ρ, e, vw, hp⟩ => post_sh e (.int i) hp
/-! ### a chain of three, as a test -/
def eCh3 (k1 k2 k3 : Da → Da → Option Sl) (f g h l : Sem1) : Sem1 := fun ρ => (dat (f ρ)).bind fun x => (dat (g ρ)).bind fun y => match k1 x y with
  | some (.sh (.bl true)) => (dat (h ρ)).bind fun z => (match k2 y z with
    | some (.sh (.bl true)) => (dat (l ρ)).bind fun w => ofO (k3 z w)
    | some (.sh (.bl false)) => .ok (.sh (.bl false))
    | _ => .no)
  | some (.sh (.bl false)) => .ok (.sh (.bl false))
  | _ => .no
def tChain3 (r r' r2 : R2) (ta tb tc td : TE) : TE := fun σ H Q => ta σ H fun x H1 => tb σ H1 fun y H2 => r x y H2 fun z H3 => ∃ k, z = .bl k ∧
  (if k = true then tc σ H3 fun w' H4 => r' y w' H4 fun z2 H5 => ∃ k2, z2 = .bl k2 ∧ (if k2 = true then td σ H5 fun w2 H6 => r2 w' w2 H6 Q else Q (.bl false) H5) else Q (.bl false) H3)
theorem pt_chain3 {ta tb tc td : TE} {op op' op2 : CmpOp} {r r' r2 : R2} (ho : OpR X (compareOp op) r) (ho' : OpR X (compareOp op') r') (ho2 : OpR X (compareOp op2) r2) (ha : PE X a ta) (hb : PE X b tb) (hc : PE X c tc) (hd : PE X d td)
    (hm : lastMarks [op, op', op2] [b, c, d] = false := by with_unfolding_all rfl) : PT X (.Compare a [op, op', op2] [b, c, d] pos) (tTest (tChain3 r r' r2 ta tb tc td)) := by
  refine ⟨fun pins s σ H Q I h => ?_⟩
  refine isTrue_chain (thn (ha.run pins s σ H _ I h) fun v s1 ⟨x, H1, I1, r1, q1⟩ => test_link (thn (hb.run pins s1 σ H1 _ I1 q1) fun u s2 ⟨y, H2, I2, r2, q2⟩ =>
    thn (ho pins s2 σ H2 x y v u _ I2 r1 r2 q2) fun d s3 ⟨z, H3, I3, r3, k, e, q3⟩ => ?_)) hm
  subst e
  cases r3
  refine wpAny_truthy_bool ?_
  cases k with
  | false =>
    obtain ⟨k', e', q'⟩ := q3
    cases e'
    exact ite_ff ⟨H3, I3, q'⟩
  | true =>
    refine ite_tt (test_link (thn (hc.run pins s3 σ H3 _ I3 q3) fun w' s4 ⟨z', H4, I4, r4, q4⟩ => thn (ho' pins s4 σ H4 y z' u w' _ I4 r2 r4 q4) fun d' s5 ⟨z2, H5, I5, r5, k2, e2, q5⟩ => ?_))
    subst e2
    cases r5
    refine wpAny_truthy_bool ?_
    cases k2 with
    | false =>
      obtain ⟨k', e', q'⟩ := q5
      cases e'
      exact ite_ff ⟨H5, I5, q'⟩
    | true =>
      refine ite_tt (test_last (thn (hd.run pins s5 σ H5 _ I5 q5) fun w2 s6 ⟨z3, H6, I6, r6, q6⟩ => thn (ho2 pins s6 σ H6 z' z3 w' w2 _ I6 r4 r6 q6) fun d' s7 ⟨z4, H7, I7, r7, k3, e3, q7⟩ => ?_))
      subst e3
      cases r7
      exact wpAny_truthy_bool ⟨H7, I7, q7⟩
theorem chain3_core {r r' r2 : R2} {k1 k2 k3 : Da → Da → Option Sl} (hr : RD2 T r k1) (hr' : RD2 T r' k2) (hr2 : RD2 T r2 k3) : ∀ σ H Q, tD T W (eCh3 k1 k2 k3 f g h k) σ H Q → tChain3 r r' r2 (tD T W f) (tD T W g) (tD T W h) (tD T W k) σ H Q := fun σ H Q ⟨F, ρ, e, vw, hp⟩ => by
  refine bind_d e vw hp fun x v1 F1 H1 g1 r1 hp1 => ?_
  refine bind_d g1.s (vw.mono g1.f) hp1 fun y v2 F2 H2 g2 r2 hp2 => ?_
  cases hk : k1 x y with
  | none => rw [hk] at hp2; exact hp2.elim
  | some s =>
    rw [hk] at hp2
    cases s with
    | sh d => cases d with
      | bl b =>
        refine hr F2 H2 v1 v2 x y _ _ g2.s (r1.mono g2.f) r2 hk fun v F3 H3 g3 r3 => ?_
        have r3' : Rep T F3 v (.bl b) := r3
        cases r3'
        refine ⟨b, rfl, ?_⟩
        cases b with
        | false => rw [if_neg Bool.false_ne_true]; exact post_sh g3.s (.bl false) (Post.mono g3 hp2)
        | true =>
          rw [if_pos rfl]
          refine bind_d g3.s ((vw.mono g1.f).mono (g2.f.trans g3.f)) (Post.mono g3 hp2) fun z v3 F4 H4 g4 r4 hp4 => ?_
          cases hk' : k2 y z with
          | none => rw [hk'] at hp4; exact hp4.elim
          | some s =>
            rw [hk'] at hp4
            cases s with
            | sh d => cases d with
              | bl b =>
                refine hr' F4 H4 v2 v3 y z _ _ g4.s (r2.mono (g3.f.trans g4.f)) r4 hk' fun v F5 H5 g5 r5 => ?_
                have r5' : Rep T F5 v (.bl b) := r5
                cases r5'
                refine ⟨b, rfl, ?_⟩
                cases b with
                | false => rw [if_neg Bool.false_ne_true]; exact post_sh g5.s (.bl false) (Post.mono g5 hp4)
                | true =>
                  rw [if_pos rfl]
                  refine bind_d g5.s ((((vw.mono g1.f).mono (g2.f.trans g3.f)).mono g4.f).mono g5.f) (Post.mono g5 hp4) fun w v4 F6 H6 g6 r6 hp6 => ?_
                  cases hk3 : k3 z w with
                  | none => rw [hk3] at hp6; exact hp6.elim
                  | some s => rw [hk3] at hp6; exact hr2 F6 H6 v3 v4 z w s Q g6.s (r4.mono (g5.f.trans g6.f)) r6 hk3 hp6
              | _ => exact hp4.elim
            | _ => exact hp4.elim
      | _ => exact hp2.elim
    | _ => exact hp2.elim
theorem t_chain3 {op op' op2 : CmpOp} {r r' r2 : R2} {k1 k2 k3 : Da → Da → Option Sl} (hr : RD2 T r k1) (hr' : RD2 T r' k2) (hr2 : RD2 T r2 k3) (ho : OpR X (compareOp op) r) (ho' : OpR X (compareOp op') r') (ho2 : OpR X (compareOp op2) r2)
    (ha : PE X a (tD T W f)) (hb : PE X b (tD T W g)) (hc : PE X c (tD T W h)) (hd : PE X d (tD T W k)) (hm : lastMarks [op, op', op2] [b, c, d] = false := by with_unfolding_all rfl) :
    PT X (.Compare a [op, op', op2] [b, c, d] pos) (tT T W (fB (eCh3 k1 k2 k3 f g h k))) :=
  pt_imp (pt_chain3 ho ho' ho2 ha hb hc hd hm) fun σ H Q q => chain3_core hr hr' hr2 σ H _ (b_core σ H q)
/-! ### min, max of a tuple of ints -/
def intsT (ds : List Da) : Option (List Int) := match ds with
  | [.tup xs] => asInts xs
  | _ => none
def kMin (ds : List Da) : Option Sl := match intsT ds with
  | some (n :: ns) => some (.sh (.int (ns.foldl min n)))
  | _ => none
def kMax (ds : List Da) : Option Sl := match intsT ds with
  | some (n :: ns) => some (.sh (.int (ns.foldl max n)))
  | _ => none
def rMinT (K : PySem.W.Frag) : List V → Hp → VK → Prop := fun vs H Q => ∃ (a : Addr) (n : Int) (ns : List Int), vs = [V.ref a] ∧ SqT K H a ((n :: ns).map V.int) ∧ Q (.int (ns.foldl min n)) H
def rMaxT (K : PySem.W.Frag) : List V → Hp → VK → Prop := fun vs H Q => ∃ (a : Addr) (n : Int) (ns : List Int), vs = [V.ref a] ∧ SqT K H a ((n :: ns).map V.int) ∧ Q (.int (ns.foldl max n)) H
theorem ints_reads {h : Heap} : ∀ {ns : List Int} {us : List Value}, Vals (ns.map V.int) us → ∃ as, ReadsAll h us (ns.map PyData.int) as
  | [], _, .nil => ⟨[], .nil⟩
  | n :: ns, _, .cons ⟨t, e⟩ r => by
    subst e
    obtain ⟨as, q⟩ := ints_reads (h := h) r
    exact ⟨_, .cons (.int _ _) q⟩
theorem ints_alike (ns : List Int) : PySem.W.AlikeAll (ns.map PyData.int) := by
  constructor
  · intro x hx y hy
    obtain ⟨i, _, rfl⟩ := List.mem_map.mp hx
    obtain ⟨j, _, rfl⟩ := List.mem_map.mp hy
    rfl
  · intro x hx z
    obtain ⟨i, _, rfl⟩ := List.mem_map.mp hx
    cases z
theorem dep_ints : ∀ ns : List Int, PyData.depthAll (ns.map .int) ≤ 1
  | [] => by simp [PyData.depthAll]
  | n :: ns => by
    rw [List.map_cons, PyData.depthAll]
    have := dep_ints ns
    have h2 : (PyData.int n).depth ≤ 1 := by simp [PyData.depth]
    omega
theorem read_int {h : Heap} {v : Value} {i : Int} {as : List Addr} (r : Reads h v (.int i) as) : ∃ t, v = .int i t := by
  cases r
  exact ⟨_, rfl⟩
theorem cr_minT (hc : X.calm = true) (hu : X.A.units + 64 < cLine) : CallR X (.builtin "min") (rMinT X.K) := by
  intro pins s σ H vs us Q I r h
  obtain ⟨a, n, ns, rfl, hs, q⟩ := h
  obtain ⟨its, rv, hl, _⟩ := I.tuple hs
  rw [Vals.ref1 r]
  obtain ⟨as, hr⟩ := ints_reads (h := s.heap) rv
  have hd := dep_ints (n :: ns)
  refine PySem.W.min_tuple_data (I.ok.hd hc) hl (x := .int n) (xs := ns.map .int) hr (ints_alike (n :: ns)) (by rw [List.map_cons] at hd; omega) fun i v h' tk bs hv hR hk => ?_
  rw [PySem.W.minD_ints] at hR
  obtain ⟨t, rfl⟩ := read_int hR
  exact ⟨.int _, H, I.kept hk, ⟨_, rfl⟩, q⟩
theorem cr_maxT (hc : X.calm = true) (hu : X.A.units + 64 < cLine) : CallR X (.builtin "max") (rMaxT X.K) := by
  intro pins s σ H vs us Q I r h
  obtain ⟨a, n, ns, rfl, hs, q⟩ := h
  obtain ⟨its, rv, hl, _⟩ := I.tuple hs
  rw [Vals.ref1 r]
  obtain ⟨as, hr⟩ := ints_reads (h := s.heap) rv
  have hd := dep_ints (n :: ns)
  refine PySem.W.max_tuple_data (I.ok.hd hc) hl (x := .int n) (xs := ns.map .int) hr (ints_alike (n :: ns)) (by rw [List.map_cons] at hd; omega) fun i v h' tk bs hv hR hk => ?_
  rw [PySem.W.maxD_ints] at hR
  obtain ⟨t, rfl⟩ := read_int hR
  exact ⟨.int _, H, I.kept hk, ⟨_, rfl⟩, q⟩
theorem intsT_sq {F H : Hp} {xs : List V} {ds : List Da} {ns : List Int} (ex : Ex F H) (r : RepAll T F xs ds) (h : intsT ds = some ns) : ∃ a, xs = [.ref a] ∧ SqT T.K H a (ns.map V.int) := by
  unfold intsT at h
  split at h
  · rename_i ys
    cases r with
    | cons r1 r2 => cases r2; cases r1 with
      | tup h1 h2 =>
        have e := asInts_map h
        subst e
        have e2 := h2.int_of
        subst e2
        exact ⟨_, rfl, ex_t ex h1⟩
  · cases h
theorem rd_min : RDA T (rMinT T.K) kMin := fun F H xs ds s Q ex r hk q => by
  unfold kMin at hk
  split at hk
  · rename_i n ns hi
    cases hk
    obtain ⟨a, rfl, h1⟩ := intsT_sq ex r hi
    exact ⟨a, n, ns, rfl, h1, q _ F H (Grow.refl ex) (.int _)⟩
  · cases hk
theorem rd_max : RDA T (rMaxT T.K) kMax := fun F H xs ds s Q ex r hk q => by
  unfold kMax at hk
  split at hk
  · rename_i n ns hi
    cases hk
    obtain ⟨a, rfl, h1⟩ := intsT_sq ex r hi
    exact ⟨a, n, ns, rfl, h1, q _ F H (Grow.refl ex) (.int _)⟩
  · cases hk
end
/-! ### t.index(x), t a tuple of data -/
def rIndexT (K : PySem.W.Frag) : V → List V → Hp → VK → Prop := fun x xs H Q => ∃ (a : Addr) (y : V) (d : PyData) (ds : List PyData) (j : Nat) (z : PyData), x = V.ref a ∧ xs = [y] ∧ Dp K H (V.ref a) (.tuple ds) ∧ Dp K H y d ∧
  SeqAt.shaped (.tuple ds) = true ∧ SeqAt.shaped d = true ∧ ds[j]? = some z ∧ PyData.eqv z d = true ∧ (∀ (m : Nat) (z' : PyData), m < j → ds[m]? = some z' → PyData.eqv z' d = false) ∧ Q (.int (j : Nat)) H
theorem mt_indexT {X : Cx} (hu : X.A.units + 65 < cLine) : MtR X "tuple.index" (rIndexT X.K) := by
  intro pins s σ H x xs v us Q I rx rxs h
  obtain ⟨a, y, d, ds, j, z, rfl, rfl, hl, hy, sl, sd, hz, hzj, hno, q⟩ := h
  cases rx
  cases rxs with
  | cons ry rt =>
    rename_i uy ut
    cases rt
    obtain ⟨bs, r1⟩ := Dp.reads I d y uy hy ry
    have hxs : PyData.canLayAll0 ds = true := SeqAt.canLay_of_shaped sl
    have hroom : X.A.units + 1 + min (PyData.depthAll ds) d.depth < cLine := room_in_shaped sd hu
    cases hl with
    | tup hs ha =>
      obtain ⟨its, rv, ⟨⟨cls, dd, data, sls⟩, ho, hc, n, hdt⟩, hlen⟩ := I.tuple hs
      simp only at hc hdt
      subst hc hdt
      obtain ⟨as, h4⟩ := Dp.readsAll I ds _ its ha rv
      have hn : its.length = ds.length := SeqAt.ReadsAll.length ds its as h4
      have hmap : its.map (SeqAt.readOf s.heap) = ds := SeqAt.readsAll_map ds its as hxs h4
      obtain ⟨hjd, _⟩ := List.getElem?_eq_some_iff.mp hz
      have hjl : j < its.length := by omega
      have hj : j < its.toArray.size := by simpa using hjl
      have at_ : ∀ (m : Nat) (hm : m < its.toArray.size) (z' : PyData), ds[m]? = some z' → SeqAt.readOf s.heap its.toArray[m] = z' := by
        intro m hm z' hz'
        have hml : m < its.length := by simpa using hm
        rw [← hmap, List.getElem?_map, List.getElem?_eq_getElem hml] at hz'
        have e1 : SeqAt.readOf s.heap its[m] = z' := Option.some.inj (show some (SeqAt.readOf s.heap its[m]) = some z' from hz')
        simpa using e1
      refine call_meets PySem.F.slot_tuple_index ⟨_, ho, rfl⟩ PySem.F.entry_tuple_index (PySem.F.args_tuple_index_2 _ _)
        (TI.tuple_indexAt a its.toArray n dd sls uy (fun u => PyData.eqv (SeqAt.readOf s.heap u) d) j hj ?_ ?_) ⟨ho, SeqAt.items_eqAt (vs := its.toArray) (show ReadsAll s.heap its.toArray.toList ds as from h4) r1 hxs (SeqAt.canLay_of_shaped sd) hroom, ?_⟩
      · show PyData.eqv (SeqAt.readOf s.heap its.toArray[j]) d = true
        rw [at_ j hj z hz]
        exact hzj
      · intro m hm hmj
        have hmd : m < ds.length := by omega
        have hz' : ds[m]? = some ds[m] := List.getElem?_eq_getElem hmd
        show PyData.eqv (SeqAt.readOf s.heap its.toArray[m]) d = false
        rw [at_ m hm _ hz']
        exact hno m _ hmj hz'
      · exact ⟨.int (j : Nat), H, I.tok _, ⟨_, rfl⟩, q⟩
/-- the first place of an equal one -/
def findD (d : Da) : List Da → Nat → Option Nat
  | [], _ => none
  | x :: xs, n => if eqF 8 x d = true then some n else findD d xs (n + 1)
def kIndexT (xs : List Da) (y : Da) : Option Sl := if (fits 8 (.tup xs) && fits 8 (nrm y)) = true then (findD (nrm y) xs 0).map fun (n : Nat) => .sh (.int (n : Int)) else none
def eIndexT (f g : Sem1) : Sem1 := fun ρ => (dat (f ρ)).bind fun x => match x with
  | .kt xs => (dat (g ρ)).bind fun y => ofO (kIndexT xs y)
  | _ => .no
theorem findD_spec {d : Da} : ∀ {xs : List Da} {n j : Nat}, findD d xs n = some j → ∃ i, j = n + i ∧ (∃ x, xs[i]? = some x ∧ eqF 8 x d = true) ∧ ∀ m x, m < i → xs[m]? = some x → eqF 8 x d = false
  | [], _, _, h => by cases h
  | x :: xs, n, j, h => by
    unfold findD at h
    split at h
    · rename_i hx
      cases h
      exact ⟨0, rfl, ⟨x, rfl, hx⟩, fun m _ hm => absurd hm (Nat.not_lt_zero m)⟩
    · rename_i hx
      obtain ⟨i, rfl, ⟨y, h1, h2⟩, h3⟩ := findD_spec h
      refine ⟨i + 1, by omega, ⟨y, by simpa using h1, h2⟩, fun m z hm hz => ?_⟩
      cases m with
      | zero =>
        have e : x = z := by simpa using hz
        subst e
        exact Bool.eq_false_iff.mpr hx
      | succ m => exact h3 m z (by omega) (by simpa using hz)
section
variable {X : Cx} {T : Tx} {W : WX} {o e : Expr} {f g : Sem1} {apos pos : Pos}
theorem fits_up : ∀ (n : Nat) (y : Da), fits n y = true → fits (n + 1) y = true := by
  intro n
  induction n with
  | zero => intro y hy; cases y <;> first | exact hy | (simp [fits] at hy)
  | succ n ih =>
    intro y hy
    cases y with
    | lst xs =>
      simp only [fits] at hy ⊢
      rw [List.all_eq_true] at hy ⊢
      exact fun z hz => ih z (hy z hz)
    | tup xs =>
      simp only [fits] at hy ⊢
      rw [List.all_eq_true] at hy ⊢
      exact fun z hz => ih z (hy z hz)
    | _ => first | exact hy | (simp [fits] at hy)
theorem e_indexT (hK : T.K = X.K) (hpe : PE X (.Call (.Attribute o "index" apos) [e] [] pos) (tBM X.K "tuple" (rIndexT X.K) (tD T W f) (tCons (tD T W g) tNil))) :
    PE X (.Call (.Attribute o "index" apos) [e] [] pos) (tD T W (eIndexT f g)) :=
  pe_imp hpe fun σ H Q ⟨F, ρ, ex, vw, hp⟩ => by
    refine bind_d ex vw hp fun x v1 F1 H1 g1 r1 hp1 => ?_
    cases r1 with
    | kt k1 k2 k3 hs rr =>
      refine ⟨.inr (.inl ⟨rfl, _, by rw [← hK]; exact k1, k2, k3⟩), ?_⟩
      refine bind_d g1.s (vw.mono g1.f) hp1 fun y v2 F2 H2 g2 r2 hp2 => ?_
      rename_i a ob vs ds
      show rIndexT X.K (.ref a) [v2] H2 Q
      unfold kIndexT at hp2
      split at hp2
      · rename_i hz
        rw [Bool.and_eq_true] at hz
        cases hf : findD (nrm y) ds 0 with
        | none => rw [hf] at hp2; exact hp2.elim
        | some j =>
          rw [hf] at hp2
          obtain ⟨i, rfl, ⟨z, z1, z2⟩, z3⟩ := findD_spec hf
          have hall : ds.all (fits 7) = true := by have := hz.1; simpa [fits] using this
          have fit : ∀ m u, ds[m]? = some u → fits 8 u = true := fun m u hu => fits_up 7 u (List.all_eq_true.mp hall u (List.mem_of_getElem? hu))
          have hr : Rep T F1 (.ref a) (.tup ds) := .tup hs rr
          have e1 := Rep.dp (T := T) (hr.mono g2.f) hz.1
          have e2 := Rep.dp (T := T) r2 hz.2
          rw [hK] at e1 e2
          refine ⟨a, v2, _, pyAll ds, i, z.py, rfl, rfl, Dp.mono g2.s e1, Dp.mono g2.s e2, fits_shaped hz.1, fits_shaped hz.2, ?_, ?_, ?_, ?_⟩
          · rw [pyAll_map, List.getElem?_map, z1]; rfl
          · rw [← eqF_eqv 8 _ _ (fit i z z1) hz.2]; exact z2
          · intro m z' hm hz'
            rw [pyAll_map, List.getElem?_map] at hz'
            cases hd : ds[m]? with
            | none => rw [hd] at hz'; cases hz'
            | some u =>
              rw [hd] at hz'
              cases hz'
              rw [← eqF_eqv 8 _ _ (fit m u hd) hz.2]
              exact z3 m u hm hd
          · rw [Nat.zero_add] at hp2
            exact post_sh g2.s (.int _) hp2
      · exact hp2.elim
    | _ => exact hp1.elim
/-! ### a written dict of the top: D[k], k a text -/
/-- what stands at each key: tuples of the written part -/
def KTab (T : Tx) (w : World) (a : Addr) (tab : Str → Option Da) : Prop := ∀ z d, tab z = some d → ∃ v, KDct T.K w a z v ∧ ∀ H : Hp, Rep T H v d
def eTab (tab : Str → Option Da) (f : Sem1) : Sem1 := fun ρ => (dat (f ρ)).bind fun x => match x with
  | .str z => (match tab z with
    | some d => .ok (.sh d)
    | none => .no)
  | _ => .no
theorem e_tab {x : Str} {a : Addr} {p : Pos} {tab : Str → Option Da} (hK : T.K = X.K) (D : KTab T X.w a tab) (hg : Gl X x) (hm : X.mg x = some (.ref a)) (he : PE X e (tD T W f)) (hd : (x == ("__debug__" : Str)) = false := by decide)
    (hs : PlainIx e := by exact fun _ _ => rfl) : PE X (.Subscript (.Name x p) e pos) (tD T W (eTab tab f)) :=
  pe_imp (pe_ix (r := rIxD X.K X.w) ix_kdict (pe_glob (v := .ref a) hg hm rfl hd) he hs) fun σ H Q ⟨F, ρ, ex, vw, hp⟩ => by
    refine bind_d ex vw hp fun y v F1 H1 g1 r1 hp1 => ?_
    cases r1 with
    | str z =>
      dsimp only at hp1
      cases ht : tab z with
      | none => rw [ht] at hp1; exact hp1.elim
      | some d =>
        rw [ht] at hp1
        obtain ⟨u, h1, h2⟩ := D z d ht
        rw [hK] at h1
        exact ⟨a, z, u, rfl, rfl, h1, post_sh g1.s (h2 F1) hp1⟩
    | _ => exact hp1.elim
end
end G6

namespace G6
open PySem PySem.Spec PyProof.Rows L2
theorem hu64 {k : Nat} {A : Around} (r : Room k A) : A.units + 64 < cLine := by have := r.un; omega
theorem hu65 {k : Nat} {A : Around} (r : Room k A) : A.units + 65 < cLine := by have := r.un; omega
theorem ktup_sq {K : PySem.W.Frag} {H : Hp} {a : Addr} {its : Array Value} {n : Nat} {sl : Array (Option Value)} {vs : List V} (h : K.lookup a = some ⟨.type "tuple", none, .seq its n, sl⟩) (r : Vals vs its.toList) (hz : its.size ≤ 1000 := by decide) : SqT K H a vs :=
  .inr ⟨_, its, n, h, rfl, rfl, small_size hz, r⟩
theorem kpair {T : Tx} {b : Addr} {i j : Int} {t r : Tok} {n : Nat} {sl : Array (Option Value)} (h : T.K.lookup b = some ⟨.type "tuple", none, .seq #[.int i t, .int j r] n, sl⟩) (H : Hp) : Rep T H (.ref b) (.tup [.int i, .int j]) :=
  .tup (ktup_sq (vs := [.int i, .int j]) h (.cons ⟨t, rfl⟩ (.cons ⟨r, rfl⟩ .nil)) (by simp)) (.cons (.int _) (.cons (.int _) .nil))
theorem kfour {T : Tx} {B b0 b1 b2 b3 : Addr} {d0 d1 d2 d3 : Da} {n : Nat} {sl : Array (Option Value)} {H : Hp} (h : T.K.lookup B = some ⟨.type "tuple", none, .seq #[.ref b0, .ref b1, .ref b2, .ref b3] n, sl⟩)
    (r0 : Rep T H (.ref b0) d0) (r1 : Rep T H (.ref b1) d1) (r2 : Rep T H (.ref b2) d2) (r3 : Rep T H (.ref b3) d3) : Rep T H (.ref B) (.kt [d0, d1, d2, d3]) :=
  .kt h rfl rfl (ktup_sq (vs := [.ref b0, .ref b1, .ref b2, .ref b3]) h (.cons rfl (.cons rfl (.cons rfl (.cons rfl .nil)))) (by simp)) (.cons r0 (.cons r1 (.cons r2 (.cons r3 .nil))))
section
variable {X : Cx} {T : Tx} {W : WX} {a b : Expr} {f g : Sem1} {pos : Pos}
theorem t_cmp {op : CmpOp} {r : R2} {k : Da → Da → Option Sl} (hr : RD2 T r k) (ho : OpR X (compareOp op) r) (ha : PE X a (tD T W f)) (hb : PE X b (tD T W g)) (hm : behindInMarks op b = false) :
    PT X (.Compare a [op] [b] pos) (tT T W (fB (eOp k f g))) := pt_imp (pt_cmpR ho ha hb hm) fun σ H Q q => op_core hr σ H _ (b_core σ H q)
end
theorem takesN {X : Cx} : L2N.Takes X W0 := fun _ _ ⟨_, _, _, _, _, _, _, _, _, _, _, _, _, _, _, _, w⟩ => w.elim
/-- the end of a law -/
theorem walk_end {l : PySem.W.OpenLaw} {k : Nat} {q : Program} {loose : List Str} {XP : (Str → Option Value) → Heap → Prop} {YP : World → Heap → Prop} {d : DefRec} {K : Params → PySem.W.Frag} {x : Str} {f : List Da → Rs Sl}
    (hn : l.most = some 63) (hdf : d.params.defaults = []) (hr : Room k callerA) (hY : ∀ (w : World) (h : Heap), YP w h → (K w.params).In h)
    (F : ∀ (w : World) (mg : Str → Option Value) (fa : Addr) (h : Heap), (K w.params).In h → h.Ns mainGlobals mg → mg d.name = some (.ref fa) →
      ∃ fd : FuncData, (∀ (s : Shared) (u : Value), BindsTo s fd ⟨[u], []⟩ [(x, u)]) ∧
        ∀ base : Heap, (K w.params).In base → base.Ns mainGlobals mg → ∃ T : Tx, T.K = K w.params ∧ FnOk l.prog w (K w.params) mg base (L2N.CX l.prog w) k fa fd [x] (spS T 1 f))
    (hf : ∀ ns : List Int, ns.length ≤ 63 → (∀ z ∈ ns, Builtin.Int.intBits z ≤ 1048576) → f [.scr ns] = .ok (.sh (.bl true))) :
    PySem.W.WalkO q loose XP YP l.row.toRowW d [] (fun f vs => PySem.call f vs) := by
  refine L2.walk_ofB (l := l) (n := 63) (k := k) (x := x) (K := K) (CX := fun w => L2N.CX l.prog w)
    (sp := fun w vs H Q _ => ∃ (a : Addr) (ns : List Int), vs = [.ref a] ∧ ns.length ≤ 63 ∧ (∀ z ∈ ns, Builtin.Int.intBits z ≤ 1048576) ∧ SqL (K w.params) H a (ns.map V.int) ∧ ∀ H', Q (.bl true) H')
    hn (by decide) hdf hr hY ?_ ?_ ?_
  · intro w mg fa h KX G hmg
    obtain ⟨fd, hb, hF⟩ := F w mg fa h KX G hmg
    refine ⟨fd, hb, fun base h1 h2 => ?_⟩
    obtain ⟨T, hT, ok⟩ := hF base h1 h2
    refine ok.imp fun vs H Q E ⟨a, ns, e, hl, hz, hS, q⟩ => ?_
    subst e
    refine ⟨rfl, H, [.scr ns], Ex.refl H, .cons (.scr (by rw [hT]; exact hS)) .nil, ?_⟩
    rw [hf ns hl hz]
    intro v F' H' g r
    have r' : Rep T F' v (.bl true) := r
    cases r'
    exact q H'
  · exact fun w H a ns hl hz _ hS => ⟨a, ns, rfl, hl, hz, hS, fun _ => rfl⟩
  · exact fun w H s e s' ⟨_, _, _, _, _, _, _, _, _, _, _, _, z⟩ => z
end G6

namespace G6
open PySem PySem.Spec PyProof.Rows L2
/-! ### own lists that are changed -/
section
variable {T : Tx} {F0 H0 F H : Hp} {σ : St} {ρ : Rho} {i : Nat}
theorem Grow.mut {p : Addr} {o : HO} (g : Grow F0 H0 F H) (h0 : H0 p = none) (hf : F p = none) : Grow F0 H0 F (upd H p o) := ⟨g.f, Ex.mut g.h h0, Ex.mut g.s hf, g.n⟩
theorem EnvOk.mutO {xs : List Da} (h : EnvOk T F0 H0 F H σ ρ) (hρ : ρ[i]? = some (.ow xs)) : ∃ (p : Addr) (vs : List V), σ[i]? = some (some (.ref p)) ∧ H p = some (.lst vs) ∧ RepAll T F vs xs ∧
    ∀ vs' xs', RepAll T F vs' xs' → EnvOk T F0 H0 F (upd H p (.lst vs')) σ (ρ.set i (.ow xs')) := by
  obtain ⟨o, h1, h2, h3, h4⟩ := h.ow
  obtain ⟨p, vs, q1, q2, q3, q4⟩ := h4 i _ hρ
  have hp : p ∈ o i := by rw [q1]; exact List.mem_cons_self
  obtain ⟨z1, z2, _⟩ := h3 i p hp
  refine ⟨p, vs, q2, q3, q4, fun vs' xs' r => ⟨h.g.mut z2 z1, by rw [List.length_set]; exact h.len, o, h1, h2, fun j a ha => ?_, fun j s hs => ?_⟩⟩
  · obtain ⟨y1, y2, u, y3⟩ := h3 j a ha
    refine ⟨y1, y2, ?_⟩
    by_cases e : a = p
    · subst e; exact ⟨_, upd_same⟩
    · exact ⟨u, by rw [upd_ne e]; exact y3⟩
  · by_cases e : i = j
    · subst e
      have hl : i < ρ.length := (List.getElem?_eq_some_iff.mp hρ).1
      rw [List.getElem?_set_self hl] at hs
      cases hs
      exact ⟨p, vs', q1, q2, upd_same, r⟩
    · rw [List.getElem?_set_ne e] at hs
      refine (h4 j s hs).mono (Ex.refl F) fun a ha => ?_
      have : a ≠ p := fun z => e (h2 i j p hp (z ▸ ha))
      rw [upd_ne this]
theorem Rows.get {F H : Hp} : ∀ {as : List Addr} {xss : List (List Da)} {k : Nat} {a : Addr}, Rows T F H as xss → as[k]? = some a → ∃ vs xs, xss[k]? = some xs ∧ H a = some (.lst vs) ∧ RepAll T F vs xs
  | [], _, k, a, _, h => by simp at h
  | b :: as, xs :: xss, 0, a, ⟨⟨vs, e, r⟩, t⟩, h => by
    simp at h; subst h; exact ⟨vs, xs, rfl, e, r⟩
  | b :: as, xs :: xss, k + 1, a, ⟨_, t⟩, h => by
    obtain ⟨vs, ys, h1, h2, h3⟩ := Rows.get (k := k) t (by simpa using h)
    exact ⟨vs, ys, by simpa using h1, h2, h3⟩
  | _ :: _, [], _, _, h, _ => h.elim
theorem Rows.put {F H : Hp} {vs' : List V} {xs' : List Da} (r : RepAll T F vs' xs') : ∀ {as : List Addr} {xss : List (List Da)} {k : Nat} {a : Addr}, as.Nodup → Rows T F H as xss → as[k]? = some a → Rows T F (upd H a (.lst vs')) as (xss.set k xs')
  | [], _, k, a, _, _, h => by simp at h
  | b :: as, xs :: xss, 0, a, nd, ⟨_, t⟩, h => by
    simp at h; subst h
    obtain ⟨n1, n2⟩ := List.nodup_cons.mp nd
    exact ⟨⟨vs', upd_same, r⟩, Rows.mono (Ex.refl F) (fun c hc => upd_ne fun z => n1 (z ▸ hc)) t⟩
  | b :: as, xs :: xss, k + 1, a, nd, ⟨⟨vs, e, q⟩, t⟩, h => by
    obtain ⟨n1, n2⟩ := List.nodup_cons.mp nd
    have h' : as[k]? = some a := by simpa using h
    refine ⟨⟨vs, ?_, q⟩, Rows.put r (k := k) n2 t h'⟩
    have hne : b ≠ a := fun z => n1 (z ▸ List.mem_of_getElem? h')
    rw [upd_ne hne]
    exact e
  | _ :: _, [], _, _, _, h, _ => h.elim
theorem EnvOk.mut2 {xss : List (List Da)} (h : EnvOk T F0 H0 F H σ ρ) (hρ : ρ[i]? = some (.ow2 xss)) : ∃ (p : Addr) (as : List Addr), σ[i]? = some (some (.ref p)) ∧ H p = some (.lst (as.map V.ref)) ∧ as.length = xss.length ∧
    ∀ k a, as[k]? = some a → ∃ vs xs, xss[k]? = some xs ∧ H a = some (.lst vs) ∧ RepAll T F vs xs ∧ ∀ vs' xs', RepAll T F vs' xs' → EnvOk T F0 H0 F (upd H a (.lst vs')) σ (ρ.set i (.ow2 (xss.set k xs'))) := by
  obtain ⟨o, h1, h2, h3, h4⟩ := h.ow
  obtain ⟨p, as, q1, q2, q3, q4⟩ := h4 i _ hρ
  refine ⟨p, as, q2, q3, q4.length, fun k a hk => ?_⟩
  obtain ⟨vs, xs, e1, e2, e3⟩ := q4.get hk
  have ham : a ∈ as := List.mem_of_getElem? hk
  have ha : a ∈ o i := by rw [q1]; exact List.mem_cons_of_mem _ ham
  obtain ⟨z1, z2, _⟩ := h3 i a ha
  have nd := h1 i
  rw [q1] at nd
  obtain ⟨n1, n2⟩ := List.nodup_cons.mp nd
  have pa : p ≠ a := fun z => n1 (z ▸ ham)
  refine ⟨vs, xs, e1, e2, e3, fun vs' xs' r => ⟨h.g.mut z2 z1, by rw [List.length_set]; exact h.len, o, h1, h2, fun j b hb => ?_, fun j s hs => ?_⟩⟩
  · obtain ⟨y1, y2, u, y3⟩ := h3 j b hb
    refine ⟨y1, y2, ?_⟩
    by_cases e : b = a
    · subst e; exact ⟨_, upd_same⟩
    · exact ⟨u, by rw [upd_ne e]; exact y3⟩
  · by_cases e : i = j
    · subst e
      have hl : i < ρ.length := (List.getElem?_eq_some_iff.mp hρ).1
      rw [List.getElem?_set_self hl] at hs
      cases hs
      exact ⟨p, as, q1, q2, by rw [upd_ne pa]; exact q3, q4.put r n2 hk⟩
    · rw [List.getElem?_set_ne e] at hs
      refine (h4 j s hs).mono (Ex.refl F) fun b hb => ?_
      have : b ≠ a := fun z => e (h2 i j a ha (z ▸ hb))
      rw [upd_ne this]
/-- an empty list, seen as one of rows -/
def as2 : Sl → Option (List (List Da))
  | .ow [] => some []
  | .ow2 xss => some xss
  | _ => none
theorem SlE.as2 {A : List Addr} {v : Option (Option V)} {s : Sl} {xss : List (List Da)} (h : SlE T F H A v s) (e : as2 s = some xss) : SlE T F H A v (.ow2 xss) := by
  unfold G6.as2 at e
  split at e
  · cases e
    obtain ⟨p, vs, q1, q2, q3, q4⟩ := h
    cases q4
    exact ⟨p, [], q1, q2, q3, trivial⟩
  · cases e; exact h
  · cases e
theorem Rows.append {F H : Hp} {as : List Addr} {xss : List (List Da)} {p : Addr} {us : List V} {z : List Da} (h : Rows T F H as xss) (h2 : H p = some (.lst us)) (h3 : RepAll T F us z) : Rows T F H (as ++ [p]) (xss ++ [z]) := by
  induction as generalizing xss with
  | nil => cases xss with
    | nil => exact ⟨⟨us, h2, h3⟩, trivial⟩
    | cons _ _ => exact h.elim
  | cons a as ih => cases xss with
    | nil => exact h.elim
    | cons x xss => exact ⟨h.1, ih h.2⟩
/-- an own row goes into an own list of rows -/
theorem EnvOk.move {j : Nat} {s : Sl} {xss : List (List Da)} {xs : List Da} (h : EnvOk T F0 H0 F H σ ρ) (hij : i ≠ j) (hi : ρ[i]? = some s) (hs : as2 s = some xss) (hj : ρ[j]? = some (.ow xs)) :
    ∃ (p : Addr) (as : List Addr) (q : Addr), σ[i]? = some (some (.ref p)) ∧ H p = some (.lst (as.map V.ref)) ∧ as.length = xss.length ∧ σ[j]? = some (some (.ref q)) ∧
      EnvOk T F0 H0 F (upd H p (.lst (as.map V.ref ++ [V.ref q]))) σ ((ρ.set i (.ow2 (xss ++ [xs]))).set j .dead) := by
  obtain ⟨o, h1, h2, h3, h4⟩ := h.ow
  obtain ⟨p, as, q1, q2, q3, q4⟩ := (h4 i _ hi).as2 hs
  obtain ⟨q, vs, w1, w2, w3, w4⟩ := h4 j _ hj
  have hp : p ∈ o i := by rw [q1]; exact List.mem_cons_self
  have hq : q ∈ o j := by rw [w1]; exact List.mem_cons_self
  obtain ⟨z1, z2, _⟩ := h3 i p hp
  have nd := h1 i
  rw [q1] at nd
  obtain ⟨n1, n2⟩ := List.nodup_cons.mp nd
  have qn : q ∉ o i := fun z => hij (h2 i j q z hq)
  have pq : q ≠ p := fun z => qn (z ▸ hp)
  refine ⟨p, as, q, q2, q3, q4.length, w2, ⟨h.g.mut z2 z1, by rw [List.length_set, List.length_set]; exact h.len, fun l => if l = i then p :: (as ++ [q]) else if l = j then [] else o l, fun l => ?_, fun l m a ha hb => ?_, fun l a ha => ?_, fun l t ht => ?_⟩⟩
  · dsimp only
    split
    · refine List.nodup_cons.mpr ⟨fun z => ?_, List.nodup_append.mpr ⟨n2, List.nodup_cons.mpr ⟨List.not_mem_nil, List.Pairwise.nil⟩, fun a ha b hb e => ?_⟩⟩
      · rcases List.mem_append.mp z with z | z
        · exact n1 z
        · exact pq (List.mem_singleton.mp z).symm
      · rw [List.mem_singleton.mp hb] at e
        exact qn (by rw [q1]; exact List.mem_cons_of_mem _ (e ▸ ha))
    · split
      · exact List.Pairwise.nil
      · exact h1 l
  · have key : ∀ l a, a ∈ (if l = i then p :: (as ++ [q]) else if l = j then [] else o l) → (l = i ∧ (a ∈ o i ∨ a = q)) ∨ (l ≠ i ∧ l ≠ j ∧ a ∈ o l) := fun l a ha => by
      by_cases e1 : l = i
      · rw [if_pos e1] at ha
        refine .inl ⟨e1, ?_⟩
        rcases List.mem_cons.mp ha with z | z
        · exact .inl (z ▸ hp)
        · rcases List.mem_append.mp z with z | z
          · exact .inl (by rw [q1]; exact List.mem_cons_of_mem _ z)
          · exact .inr (List.mem_singleton.mp z)
      · rw [if_neg e1] at ha
        by_cases e2 : l = j
        · rw [if_pos e2] at ha; cases ha
        · rw [if_neg e2] at ha; exact .inr ⟨e1, e2, ha⟩
    rcases key l a ha with ⟨e1, a1⟩ | ⟨e1, e2, a1⟩ <;> rcases key m a hb with ⟨e3, a2⟩ | ⟨e3, e4, a2⟩
    · rw [e1, e3]
    · rcases a1 with a1 | a1
      · exact absurd (h2 i m a a1 a2).symm e3
      · exact absurd (h2 j m q hq (a1 ▸ a2)).symm e4
    · rcases a2 with a2 | a2
      · exact absurd (h2 i l a a2 a1).symm e1
      · exact absurd (h2 j l q hq (a2 ▸ a1)).symm e2
    · exact h2 l m a a1 a2
  · have : ∃ l', a ∈ o l' := by
      by_cases e1 : l = i
      · simp only [if_pos e1] at ha
        rcases List.mem_cons.mp ha with z | z
        · exact ⟨i, z ▸ hp⟩
        · rcases List.mem_append.mp z with z | z
          · exact ⟨i, by rw [q1]; exact List.mem_cons_of_mem _ z⟩
          · exact ⟨j, (List.mem_singleton.mp z) ▸ hq⟩
      · simp only [if_neg e1] at ha
        by_cases e2 : l = j
        · simp only [if_pos e2] at ha; cases ha
        · simp only [if_neg e2] at ha; exact ⟨l, ha⟩
    obtain ⟨l', hl'⟩ := this
    obtain ⟨y1, y2, u, y3⟩ := h3 l' a hl'
    refine ⟨y1, y2, ?_⟩
    by_cases e : a = p
    · subst e; exact ⟨_, upd_same⟩
    · exact ⟨u, by rw [upd_ne e]; exact y3⟩
  · by_cases e2 : j = l
    · subst e2
      by_cases hl : j < ρ.length
      · rw [List.getElem?_set_self (by rw [List.length_set]; exact hl)] at ht
        cases ht
        show (if j = i then p :: (as ++ [q]) else if j = j then [] else o j) = []
        rw [if_neg (Ne.symm hij), if_pos rfl]
      · rw [List.getElem?_eq_none (by rw [List.length_set, List.length_set]; omega)] at ht; cases ht
    · rw [List.getElem?_set_ne e2] at ht
      by_cases e1 : i = l
      · subst e1
        have hl : i < ρ.length := (List.getElem?_eq_some_iff.mp hi).1
        rw [List.getElem?_set_self hl] at ht
        cases ht
        refine ⟨p, as ++ [q], by simp only [if_true], q2, by rw [upd_same, List.map_append]; rfl, ?_⟩
        refine Rows.append (us := vs) (Rows.mono (Ex.refl F) (fun a ha => upd_ne fun z => n1 (z ▸ ha)) q4) (by rw [upd_ne pq]; exact w3) w4
      · rw [List.getElem?_set_ne e1] at ht
        simp only [if_neg (Ne.symm e1), if_neg (Ne.symm e2)]
        refine (h4 l t ht).mono (Ex.refl F) fun a ha => ?_
        have : a ≠ p := fun z => e1 (h2 i l p hp (z ▸ ha))
        rw [upd_ne this]
/-- a slot forgotten, whatever it holds -/
theorem EnvOk.kill {v : V} (h : EnvOk T F0 H0 F H σ ρ) : EnvOk T F0 H0 F H (σ.set i (some v)) (ρ.set i .dead) := by
  obtain ⟨o, h1, h2, h3, h4⟩ := h.ow
  refine ⟨h.g, by rw [List.length_set, List.length_set]; exact h.len, fun l => if l = i then [] else o l, fun l => ?_, fun l m a ha hb => ?_, fun l a ha => ?_, fun l t ht => ?_⟩
  · dsimp only
    split
    · exact List.Pairwise.nil
    · exact h1 l
  · by_cases e1 : l = i
    · simp only [if_pos e1] at ha; cases ha
    · by_cases e2 : m = i
      · simp only [if_pos e2] at hb; cases hb
      · simp only [if_neg e1] at ha
        simp only [if_neg e2] at hb
        exact h2 l m a ha hb
  · by_cases e1 : l = i
    · simp only [if_pos e1] at ha; cases ha
    · simp only [if_neg e1] at ha; exact h3 l a ha
  · by_cases e : i = l
    · subst e
      by_cases hl : i < ρ.length
      · rw [List.getElem?_set_self hl] at ht
        cases ht
        simp only [if_true]
        rfl
      · rw [List.getElem?_eq_none (by rw [List.length_set]; omega)] at ht; cases ht
    · rw [List.getElem?_set_ne e] at ht ⊢
      simp only [if_neg (Ne.symm e)]
      exact h4 l t ht
/-- the last row is taken off -/
theorem EnvOk.pop2 {xss : List (List Da)} (h : EnvOk T F0 H0 F H σ ρ) (hρ : ρ[i]? = some (.ow2 xss)) : ∃ (p : Addr) (as : List Addr), σ[i]? = some (some (.ref p)) ∧ H p = some (.lst (as.map V.ref)) ∧ as.length = xss.length ∧
    EnvOk T F0 H0 F (upd H p (.lst (as.map V.ref).dropLast)) σ (ρ.set i (.ow2 xss.dropLast)) := by
  obtain ⟨o, h1, h2, h3, h4⟩ := h.ow
  obtain ⟨p, as, q1, q2, q3, q4⟩ := h4 i _ hρ
  have hp : p ∈ o i := by rw [q1]; exact List.mem_cons_self
  obtain ⟨z1, z2, _⟩ := h3 i p hp
  have nd := h1 i
  rw [q1] at nd
  obtain ⟨n1, n2⟩ := List.nodup_cons.mp nd
  have sub : ∀ l a, a ∈ (if l = i then p :: as.dropLast else o l) → a ∈ o l := fun l a ha => by
    by_cases e : l = i
    · rw [if_pos e] at ha
      subst e
      rw [q1]
      rcases List.mem_cons.mp ha with z | z
      · exact z ▸ List.mem_cons_self
      · exact List.mem_cons_of_mem _ (List.dropLast_subset _ z)
    · rw [if_neg e] at ha; exact ha
  refine ⟨p, as, q2, q3, q4.length, ⟨h.g.mut z2 z1, by rw [List.length_set]; exact h.len, fun l => if l = i then p :: as.dropLast else o l, fun l => ?_, fun l m a ha hb => h2 l m a (sub l a ha) (sub m a hb), fun l a ha => ?_, fun l t ht => ?_⟩⟩
  · dsimp only
    split
    · exact List.nodup_cons.mpr ⟨fun z => n1 (List.dropLast_subset _ z), n2.sublist (List.dropLast_sublist _)⟩
    · exact h1 l
  · obtain ⟨y1, y2, u, y3⟩ := h3 l a (sub l a ha)
    refine ⟨y1, y2, ?_⟩
    by_cases e : a = p
    · subst e; exact ⟨_, upd_same⟩
    · exact ⟨u, by rw [upd_ne e]; exact y3⟩
  · by_cases e : i = l
    · subst e
      have hl : i < ρ.length := (List.getElem?_eq_some_iff.mp hρ).1
      rw [List.getElem?_set_self hl] at ht
      cases ht
      have rd : ∀ {as : List Addr} {xss : List (List Da)} {H : Hp}, Rows T F H as xss → Rows T F H as.dropLast xss.dropLast := by
        intro as
        induction as with
        | nil => intro xss H h; cases xss with
          | nil => trivial
          | cons _ _ => exact h.elim
        | cons a as ih =>
          intro xss H h
          cases xss with
          | nil => exact h.elim
          | cons x xss =>
            cases as with
            | nil => cases xss with
              | nil => trivial
              | cons _ _ => exact h.2.elim
            | cons b bs => cases xss with
              | nil => exact h.2.elim
              | cons y ys => exact ⟨h.1, ih h.2⟩
      refine ⟨p, as.dropLast, by simp only [if_true], q2, by rw [upd_same, List.map_dropLast], rd (Rows.mono (Ex.refl F) (fun a ha => upd_ne fun z => n1 (z ▸ ha)) q4)⟩
    · rw [List.getElem?_set_ne e] at ht
      simp only [if_neg (Ne.symm e)]
      refine (h4 l t ht).mono (Ex.refl F) fun a ha => ?_
      have : a ≠ p := fun z => e (h2 i l p hp (z ▸ ha))
      rw [upd_ne this]
end
end G6

namespace G6
open PySem PySem.Spec PyProof.Rows L2
section
variable {T : Tx} {W : WX} {F0 H0 F H : Hp} {σ : St} {ρ : Rho}
theorem run_dat {Pd : Rs Da → Prop} {full : Bool} {f : Sem1} {Q : VK} (ok : EnvOk T F0 H0 F H σ ρ) (hp : Pd (dat (stf full f ρ))) (hno : ¬ Pd .no) (hex : ∀ c, Pd (.ex c) → PEx T W σ H c)
    (q : ∀ d v F' H', Grow F H F' H' → Rep T F' v d → Pd (.ok d) → Q v H') : tD T W f σ H Q := by
  refine run_st (P := fun r => Pd (dat r)) ok hp hno hex fun s v F' H' g r hq => ?_
  cases hv : s.view with
  | none => simp only [dat, hv] at hq; exact (hno hq).elim
  | some d =>
    simp only [dat, hv] at hq
    obtain ⟨F2, g2, r2⟩ := r.see g hv
    exact q d v F2 H' g2 r2 hq
theorem run_v {f : Sem1} {Q : VK} {d : Da} (ok : EnvOk T F0 H0 F H σ ρ) (hf : dat (f ρ) = .ok d) (q : ∀ v F' H', Ex H H' → Rep T F' v d → Q v H') : tD T W f σ H Q := by
  refine ⟨H, ρ, Ex.refl H, ok.view, ?_⟩
  cases hs : f ρ with
  | no => rw [hs] at hf; cases hf
  | ex c => rw [hs] at hf; cases hf
  | ok s =>
    rw [hs] at hf
    cases hv : s.view with
    | none => simp only [dat, hv] at hf; cases hf
    | some d' =>
      simp only [dat, hv] at hf
      cases hf
      intro v F' H' g r
      obtain ⟨F2, g2, r2⟩ := r.see g hv
      exact q v F2 H' g2.h r2
end
/-! xs.append(e) -/
def sApp (i : Nat) (full : Bool) (f : Sem1) : SemS := fun ρ => match ρ[i]? with
  | some (.ow xs) => if xs.length ≤ 1000000 then (match dat (stf full f ρ) with
    | .ok d => .nx (ρ.set i (.ow (xs ++ [d])))
    | .ex c => .ex c ρ
    | .no => .no) else .no
  | _ => .no
/-! xs.extend(e) -/
def sExt (i : Nat) (full : Bool) (f : Sem1) : SemS := fun ρ => match ρ[i]? with
  | some (.ow xs) => (match dat (stf full f ρ) with
    | .ok (.lst ys) => if xs.length + ys.length ≤ 1000000 then .nx (ρ.set i (.ow (xs ++ ys))) else .no
    | .ex c => .ex c ρ
    | _ => .no)
  | _ => .no
/-! xs[e1] = e -/
def sPutI (i : Nat) (full : Bool) (f f1 : Sem1) : SemS := fun ρ => match dat (stf full f ρ) with
  | .ok d => (match ρ[i]?, dat (f1 ρ) with
    | some (.ow xs), .ok (.int k) => (match ixN xs.length k with
      | some j => .nx (ρ.set i (.ow (xs.set j d)))
      | none => .no)
    | _, _ => .no)
  | .ex c => .ex c ρ
  | .no => .no
/-! xs[e1][e2] = e -/
def put2 (xss : List (List Da)) (k1 k2 : Int) (d : Da) : Option (List (List Da)) := match ixN xss.length k1 with
  | none => none
  | some j1 => (match xss[j1]? with
    | none => none
    | some xs => (match ixN xs.length k2 with
      | none => none
      | some j2 => some (xss.set j1 (xs.set j2 d))))
def sPutII (i : Nat) (full : Bool) (f f1 f2 : Sem1) : SemS := fun ρ => match dat (stf full f ρ) with
  | .ok d => (match ρ[i]?, dat (f1 ρ), dat (f2 ρ) with
    | some (.ow2 xss), .ok (.int k1), .ok (.int k2) => (match put2 xss k1 k2 d with
      | some yss => .nx (ρ.set i (.ow2 yss))
      | none => .no)
    | _, _, _ => .no)
  | .ex c => .ex c ρ
  | .no => .no
/-! xs[e1].append(e) -/
def app2 (xss : List (List Da)) (k1 : Int) (d : Da) : Option (List (List Da)) := match ixN xss.length k1 with
  | none => none
  | some j1 => (match xss[j1]? with
    | none => none
    | some xs => if xs.length ≤ 1000000 then some (xss.set j1 (xs ++ [d])) else none)
def sAppI (i : Nat) (f1 f : Sem1) : SemS := fun ρ => match ρ[i]?, dat (f1 ρ), dat (f ρ) with
  | some (.ow2 xss), .ok (.int k1), .ok (.int n) => (match app2 xss k1 (.int n) with
    | some yss => .nx (ρ.set i (.ow2 yss))
    | none => .no)
  | _, _, _ => .no
/-! xs.append(row) -/
def sMove (i j : Nat) : SemS := fun ρ => if i = j then .no else match ρ[i]?, ρ[j]? with
  | some s, some (.ow xs) => (match as2 s with
    | some xss => if xss.length ≤ 1000000 then .nx ((ρ.set i (.ow2 (xss ++ [xs]))).set j .dead) else .no
    | none => .no)
  | _, _ => .no
/-! xs.pop() -/
def sPop (i : Nat) : SemS := fun ρ => match ρ[i]? with
  | some (.ow2 (x :: xss)) => .nx (ρ.set i (.ow2 (x :: xss).dropLast))
  | _ => .no
/-! row = xs[e1]; row[e2] = e -/
def sAlias (i l : Nat) (f1 f2 : Sem1) (f : Sem1) : SemS := fun ρ => match ρ[i]?, dat (f1 ρ), dat (f2 (ρ.set l .dead)), dat (f (ρ.set l .dead)) with
  | some (.ow2 xss), .ok (.int k1), .ok (.int k2), .ok (.int n) => if i = l ∨ ¬ l < ρ.length then .no else (match put2 xss k1 k2 (.int n) with
    | some yss => .nx ((ρ.set i (.ow2 yss)).set l .dead)
    | none => .no)
  | _, _, _, _ => .no
section
variable {X : Cx} {T : Tx} {W : WX} {f f1 f2 : Sem1} {i j l : Nat} {full : Bool} {st st2 : Stmt}
theorem tyl {K : PySem.W.Frag} {H : Hp} {p : Addr} {xs : List V} (h : H p = some (.lst xs)) : tyV K "list" (.ref p) H := Or.inl ⟨rfl, xs, SqL.of h⟩
theorem lt_size {n : Nat} (h : n ≤ 1000000) : n < sizeLine := Nat.lt_of_le_of_lt h (by decide)
theorem s_app (h : PS X st (tDrop (tBM X.K "list" rAppend (tVar i) (tCons (tD T W f) tNil)))) : PS X st (tS T W (sApp i full f)) :=
  ps_imp h fun D σ H ⟨F0, H0, F, ρ, ok, hp⟩ => by
    unfold sApp at hp
    cases hr : ρ[i]? with
    | none => rw [hr] at hp; exact hp.elim
    | some s => cases s with
      | ow xs =>
        rw [hr] at hp
        dsimp only at hp
        split at hp
        · rename_i hz
          obtain ⟨p, vs, e1, e2, e3, e4⟩ := ok.mutO hr
          refine ⟨.ref p, e1, tyl e2, ?_⟩
          refine run_dat (Pd := fun r => PostS T W D F0 H0 F (match r with | .ok d => .nx (ρ.set i (.ow (xs ++ [d]))) | .ex c => .ex c ρ | .no => .no)) ok hp (fun z => z) (fun c z => post_ex ok z) fun d v F' H' g r hq => ?_
          obtain ⟨p', vs', a1, a2, a3, a4⟩ := (ok.ext g).mutO hr
          rw [e1] at a1; cases a1
          exact ⟨p, vs', v, rfl, rfl, a2, lt_size (by rw [a3.length]; exact hz), hq σ F' _ g.f (a4 _ _ (a3.append (.cons r .nil)))⟩
        · exact hp.elim
      | _ => rw [hr] at hp; exact hp.elim
theorem s_ext (h : PS X st (tDrop (tBM X.K "list" rExtend (tVar i) (tCons (tD T W f) tNil)))) : PS X st (tS T W (sExt i full f)) :=
  ps_imp h fun D σ H ⟨F0, H0, F, ρ, ok, hp⟩ => by
    unfold sExt at hp
    cases hr : ρ[i]? with
    | none => rw [hr] at hp; exact hp.elim
    | some s => cases s with
      | ow xs =>
        rw [hr] at hp
        dsimp only at hp
        obtain ⟨p, vs, e1, e2, e3, e4⟩ := ok.mutO hr
        refine ⟨.ref p, e1, tyl e2, ?_⟩
        refine run_dat (Pd := fun r => PostS T W D F0 H0 F (match r with | .ok (.lst ys) => (if xs.length + ys.length ≤ 1000000 then .nx (ρ.set i (.ow (xs ++ ys))) else .no) | .ex c => .ex c ρ | _ => .no)) ok hp (fun z => z) (fun c z => post_ex ok z) fun d v F' H' g r hq => ?_
        obtain ⟨p', vs', a1, a2, a3, a4⟩ := (ok.ext g).mutO hr
        rw [e1] at a1; cases a1
        cases r with
        | lst h1 r1 =>
          dsimp only at hq
          split at hq
          · rename_i hz
            exact ⟨p, _, vs', _, rfl, rfl, a2, g.s _ _ h1, by rw [a3.length, r1.length]; exact big_size hz, hq σ F' _ g.f (a4 _ _ (a3.append r1))⟩
          · exact hq.elim
        | _ => exact hq.elim
      | _ => rw [hr] at hp; exact hp.elim
theorem s_putI (h : PS X st (tAsg (tD T W f) (gSub (tVar i) (tD T W f1) rSetL))) : PS X st (tS T W (sPutI i full f f1)) :=
  ps_imp h fun D σ H ⟨F0, H0, F, ρ, ok, hp⟩ => by
    refine run_dat (Pd := fun r => PostS T W D F0 H0 F (match r with
      | .ok d => (match ρ[i]?, dat (f1 ρ) with
        | some (.ow xs), .ok (.int k) => (match ixN xs.length k with
          | some j => .nx (ρ.set i (.ow (xs.set j d)))
          | none => .no)
        | _, _ => .no)
      | .ex c => .ex c ρ
      | .no => .no)) ok hp (fun z => z) (fun c z => post_ex ok z) fun d v F' H' g r hq => ?_
    have ok' := ok.ext g
    dsimp only at hq
    split at hq
    · rename_i xs k hr hk
      cases hx : ixN xs.length k with
      | none => rw [hx] at hq; exact hq.elim
      | some j =>
        rw [hx] at hq
        obtain ⟨p0, vs0, b1, b2, b3, b4⟩ := ok'.mutO hr
        refine ⟨.ref p0, b1, ?_⟩
        refine run_v ok' hk fun u F2 H2 e2 r2 => ?_
        cases r2
        have ok2 := ok'.grow e2
        obtain ⟨p, vs, a1, a2, a3, a4⟩ := ok2.mutO hr
        rw [b1] at a1; cases a1
        exact ⟨p0, vs, k, j, rfl, rfl, a2, by rw [a3.length]; exact hx, hq σ F' _ g.f (a4 _ _ (a3.set r j))⟩
    · exact hq.elim
theorem atI_refs {as : List Addr} {k : Int} {j : Nat} (h : ixN as.length k = some j) : ∃ a, as[j]? = some a ∧ atI (as.map V.ref) k = some (.ref a) := by
  have hj : j < as.length := (ixN_seq h).2.1
  refine ⟨as[j], List.getElem?_eq_getElem hj, ?_⟩
  unfold atI
  rw [List.length_map, h]
  show (as.map V.ref)[j]? = _
  rw [List.getElem?_map, List.getElem?_eq_getElem hj]
  rfl
theorem s_putII (h : PS X st (tAsg (tD T W f) (gSub (tOp (rIxL X.K) (tVar i) (tD T W f1)) (tD T W f2) rSetL))) : PS X st (tS T W (sPutII i full f f1 f2)) :=
  ps_imp h fun D σ H ⟨F0, H0, F, ρ, ok, hp⟩ => by
    refine run_dat (Pd := fun r => PostS T W D F0 H0 F (match r with
      | .ok d => (match ρ[i]?, dat (f1 ρ), dat (f2 ρ) with
        | some (.ow2 xss), .ok (.int k1), .ok (.int k2) => (match put2 xss k1 k2 d with
          | some yss => .nx (ρ.set i (.ow2 yss))
          | none => .no)
        | _, _, _ => .no)
      | .ex c => .ex c ρ
      | .no => .no)) ok hp (fun z => z) (fun c z => post_ex ok z) fun d v F' H' g r hq => ?_
    have ok' := ok.ext g
    dsimp only at hq
    split at hq
    · rename_i xss k1 k2 hr hk1 hk2
      unfold put2 at hq
      cases hx : ixN xss.length k1 with
      | none => rw [hx] at hq; exact hq.elim
      | some j1 =>
        rw [hx] at hq
        dsimp only at hq
        cases hxs : xss[j1]? with
        | none => rw [hxs] at hq; exact hq.elim
        | some xs =>
          rw [hxs] at hq
          dsimp only at hq
          cases hx2 : ixN xs.length k2 with
          | none => rw [hx2] at hq; exact hq.elim
          | some j2 =>
            rw [hx2] at hq
            dsimp only at hq
            obtain ⟨p0, as0, b1, b2, b3, b4⟩ := ok'.mut2 hr
            refine ⟨.ref p0, b1, ?_⟩
            refine run_v ok' hk1 fun u F2 H2 e2 r2 => ?_
            cases r2
            have ok2 := ok'.grow e2
            have hx0 := hx
            rw [← b3] at hx0
            obtain ⟨a, ha1, ha2⟩ := atI_refs hx0
            refine ⟨p0, as0.map V.ref, k1, .ref a, rfl, rfl, SqL.of (e2 _ _ b2), ha2, ?_⟩
            refine run_v ok2 hk2 fun u F3 H3 e3 r3 => ?_
            cases r3
            have ok3 := ok2.grow e3
            obtain ⟨p, as, a1, a2, a3, a4⟩ := ok3.mut2 hr
            rw [b1] at a1; cases a1
            have hH : H3 p0 = some (.lst (as0.map V.ref)) := e3 _ _ (e2 _ _ b2)
            rw [hH] at a2
            have has : as0 = as := by
              have := HO.lst.inj (Option.some.inj a2)
              exact List.map_inj_right (fun x y e => V.ref.inj e) |>.mp this
            subst has
            obtain ⟨vs, xs', c1, c2, c3, c4⟩ := a4 j1 a ha1
            rw [hxs] at c1; cases c1
            exact ⟨a, vs, k2, j2, rfl, rfl, c2, by rw [c3.length]; exact hx2, hq σ F' _ g.f (c4 _ _ (c3.set r j2))⟩
    · exact hq.elim
theorem s_appI (h : PS X st (tDrop (tBM X.K "list" rAppend (tOp (rIxL X.K) (tVar i) (tD T W f1)) (tCons (tD T W f) tNil)))) : PS X st (tS T W (sAppI i f1 f)) :=
  ps_imp h fun D σ H ⟨F0, H0, F, ρ, ok, hp⟩ => by
    unfold sAppI at hp
    split at hp
    · rename_i xss k1 n hr hk1 hk2
      unfold app2 at hp
      cases hx : ixN xss.length k1 with
      | none => rw [hx] at hp; exact hp.elim
      | some j1 =>
        rw [hx] at hp
        dsimp only at hp
        cases hxs : xss[j1]? with
        | none => rw [hxs] at hp; exact hp.elim
        | some xs =>
          rw [hxs] at hp
          dsimp only at hp
          by_cases hz : xs.length ≤ 1000000
          · rw [if_pos hz] at hp
            dsimp only at hp
            obtain ⟨p0, as0, b1, b2, b3, b4⟩ := ok.mut2 hr
            refine ⟨.ref p0, b1, ?_⟩
            refine run_v ok hk1 fun u F2 H2 e2 r2 => ?_
            cases r2
            have ok2 := ok.grow e2
            have hx0 := hx
            rw [← b3] at hx0
            obtain ⟨a, ha1, ha2⟩ := atI_refs hx0
            obtain ⟨vs0, xs0, d1, d2, d3, _⟩ := b4 j1 a ha1
            refine ⟨p0, as0.map V.ref, k1, .ref a, rfl, rfl, SqL.of (e2 _ _ b2), ha2, tyl (e2 _ _ d2), ?_⟩
            refine run_v ok2 hk2 fun u F3 H3 e3 r3 => ?_
            cases r3
            have ok3 := ok2.grow e3
            obtain ⟨p, as, a1, a2, a3, a4⟩ := ok3.mut2 hr
            rw [b1] at a1; cases a1
            have hH : H3 p0 = some (.lst (as0.map V.ref)) := e3 _ _ (e2 _ _ b2)
            rw [hH] at a2
            have has : as0 = as := by
              have := HO.lst.inj (Option.some.inj a2)
              exact List.map_inj_right (fun x y e => V.ref.inj e) |>.mp this
            subst has
            obtain ⟨vs, xs', c1, c2, c3, c4⟩ := a4 j1 a ha1
            rw [hxs] at c1; cases c1
            exact ⟨a, vs, .int n, rfl, rfl, c2, lt_size (by rw [c3.length]; exact hz), hp σ F _ (Ex.refl F) (c4 _ _ (c3.append (.cons (.int n) .nil)))⟩
          · rw [if_neg hz] at hp; exact hp.elim
    · exact hp.elim
theorem s_move (h : PS X st (tDrop (tBM X.K "list" rAppend (tVar i) (tCons (tVar j) tNil)))) : PS X st (tS T W (sMove i j)) :=
  ps_imp h fun D σ H ⟨F0, H0, F, ρ, ok, hp⟩ => by
    unfold sMove at hp
    split at hp
    · exact hp.elim
    · rename_i hij
      split at hp
      · rename_i s xs hi hj
        cases hs : as2 s with
        | none => rw [hs] at hp; exact hp.elim
        | some xss =>
          rw [hs] at hp
          dsimp only at hp
          by_cases hz : xss.length ≤ 1000000
          · rw [if_pos hz] at hp
            obtain ⟨p, as, q, a1, a2, a3, a4, a5⟩ := ok.move hij hi hs hj
            exact ⟨.ref p, a1, tyl a2, .ref q, a4, p, _, _, rfl, rfl, a2, lt_size (by rw [List.length_map, a3]; exact hz), hp σ F _ (Ex.refl F) a5⟩
          · rw [if_neg hz] at hp; exact hp.elim
      · exact hp.elim
theorem s_pop (h : PS X st (tDrop (tBM0 X.K "list" rPop (tVar i)))) : PS X st (tS T W (sPop i)) :=
  ps_imp h fun D σ H ⟨F0, H0, F, ρ, ok, hp⟩ => by
    unfold sPop at hp
    split at hp
    · rename_i x xss hr
      obtain ⟨p, as, a1, a2, a3, a4⟩ := ok.pop2 hr
      have hl : 0 < as.length := by rw [a3]; simp
      refine ⟨.ref p, a1, tyl a2, p, as.map V.ref, _, rfl, rfl, a2, List.getElem?_eq_getElem (by rw [List.length_map]; omega), hp σ F _ (Ex.refl F) a4⟩
    · exact hp.elim
def tSet1 (l : Nat) (te : TE) : TS := fun D σ H => te σ H fun x H1 => D.nx (σ.set l (some x)) H1
theorem ss_alias (h1 : PS X st (tSet1 l (tOp (rIxL X.K) (tVar i) (tD T W f1)))) (h2 : PS X st2 (tAsg (tD T W f) (gSub (tVar l) (tD T W f2) rSetL))) : PSs X [st, st2] (tS T W (sAlias i l f1 f2 f)) :=
  pss_imp (pss_cons h1 (pss_one h2)) fun D σ H ⟨F0, H0, F, ρ, ok, hp⟩ => by
    unfold sAlias at hp
    split at hp
    · rename_i xss k1 k2 n hr hk1 hk2 hk
      by_cases hil0 : i = l ∨ ¬ l < ρ.length
      · rw [if_pos hil0] at hp; exact hp.elim
      · rw [if_neg hil0] at hp
        have hil : ¬ i = l := fun z => hil0 (.inl z)
        have hll : l < σ.length := by rw [ok.len]; exact Decidable.not_not.mp fun z => hil0 (.inr z)
        unfold put2 at hp
        cases hx : ixN xss.length k1 with
        | none => rw [hx] at hp; exact hp.elim
        | some j1 =>
          rw [hx] at hp
          dsimp only at hp
          cases hxs : xss[j1]? with
          | none => rw [hxs] at hp; exact hp.elim
          | some xs =>
            rw [hxs] at hp
            dsimp only at hp
            cases hx2 : ixN xs.length k2 with
            | none => rw [hx2] at hp; exact hp.elim
            | some j2 =>
              rw [hx2] at hp
              dsimp only at hp
              obtain ⟨p0, as0, b1, b2, b3, b4⟩ := ok.mut2 hr
              refine ⟨.ref p0, b1, ?_⟩
              refine run_v ok hk1 fun u F2 H2 e2 r2 => ?_
              cases r2
              have ok2 := ok.grow e2
              have hx0 := hx
              rw [← b3] at hx0
              obtain ⟨a, ha1, ha2⟩ := atI_refs hx0
              refine ⟨p0, as0.map V.ref, k1, .ref a, rfl, rfl, SqL.of (e2 _ _ b2), ha2, ?_⟩
              have ok3 := ok2.kill (i := l) (v := .ref a)
              refine run_v ok3 hk fun u F4 H4 e4 r4 => ?_
              cases r4
              have ok4 := ok3.grow e4
              have hr' : (ρ.set l .dead)[i]? = some (.ow2 xss) := by rw [List.getElem?_set_ne (Ne.symm hil)]; exact hr
              refine ⟨.ref a, by rw [List.getElem?_set_self hll], ?_⟩
              refine run_v ok4 hk2 fun u F5 H5 e5 r5 => ?_
              cases r5
              have ok5 := ok4.grow e5
              obtain ⟨p, as, a1, a2, a3, a4⟩ := ok5.mut2 hr'
              rw [List.getElem?_set_ne (Ne.symm hil), b1] at a1; cases a1
              have hH : H5 p0 = some (.lst (as0.map V.ref)) := e5 _ _ (e4 _ _ (e2 _ _ b2))
              rw [hH] at a2
              have has : as0 = as := by
                have := HO.lst.inj (Option.some.inj a2)
                exact List.map_inj_right (fun x y e => V.ref.inj e) |>.mp this
              subst has
              obtain ⟨vs, xs', c1, c2, c3, c4⟩ := a4 j1 a ha1
              rw [hxs] at c1; cases c1
              have c5 := c4 _ _ (c3.set (.int n) j2)
              rw [List.set_comm _ _ (Ne.symm hil)] at c5
              exact ⟨a, vs, k2, j2, rfl, rfl, c2, by rw [c3.length]; exact hx2, hp _ F _ (Ex.refl F) c5⟩
    · exact hp.elim
end
end G6

namespace G6
open PySem PySem.Spec PyProof.Rows L2
/-! ### list(range(a, b)) -/
def rngV (lo : Int) (n : Nat) : List V := (List.range n).map fun (k : Nat) => V.int (lo + (k : Int))
def rListR : List V → Hp → VK → Prop := fun xs H Q => ∃ (p : Addr) (lo hi : Int), xs = [.ref p] ∧ H p = some (.rng lo hi) ∧ (0 ≤ lo ∧ lo ≤ 1000000 ∧ -1000000 ≤ hi ∧ hi ≤ 1000000) ∧ ∀ l, H l = none → Q (.ref l) (upd H l (.lst (rngV lo (hi - lo).toNat)))
theorem vals_of_get : ∀ {vs : List V} {us : List Value}, vs.length = us.length → (∀ (j : Nat) (u : Value), us[j]? = some u → ∃ v, vs[j]? = some v ∧ RelV v u) → Vals vs us
  | [], [], _, _ => .nil
  | v :: vs, u :: us, hl, h => by
    obtain ⟨v', e1, e2⟩ := h 0 u rfl
    have e3 : v = v' := by simpa using e1
    subst e3
    exact .cons e2 (vals_of_get (by simpa using hl) fun j w hj => by
      obtain ⟨z, z1, z2⟩ := h (j + 1) w (by simpa using hj)
      exact ⟨z, by simpa using z1, z2⟩)
  | [], _ :: _, hl, _ => by simp at hl
  | _ :: _, [], hl, _ => by simp at hl
theorem cr_listR {X : Cx} (hc : X.calm = true) : CallR X (.type "list") rListR := by
  intro pins s σ H xs us Q I r h
  obtain ⟨p, lo, hi, rfl, hp, ⟨b1, b2, b3, b4⟩, q⟩ := h
  rw [Vals.ref1 r]
  obtain ⟨t, u, v, ho⟩ := (show ObjOk X.prog X.w H s.heap p (.rng lo hi) from I.hok p _ hp)
  have hsz : Builtin.Range.rangeSize lo hi 1 = ((hi - lo).toNat : Int) := by rw [rangeSize_one]; split <;> omega
  refine call_list_range (I.ok.hd hc) ho (small_one (by omega) (by omega) (by omega) (by omega)) hsz (by
    have : (2:Nat) ^ 24 = 16777216 := by decide
    omega) fun h' tk acc' c' hk hS ⟨ha, hb⟩ => ?_
  have hl : (rngV lo (hi - lo).toNat).length = acc'.toList.length := by
    unfold rngV
    rw [List.length_map, List.length_range, Array.length_toList, ha]
  refine ⟨.ref s.heap.objs.size, upd H s.heap.objs.size (.lst (rngV lo (hi - lo).toNat)), I.laid (t' := tk) hk (Nat.le_refl _) (show ObjOk X.prog X.w _ h' _ (.lst (rngV lo (hi - lo).toNat)) from ⟨?_, acc'.toList, c', ?_, by simpa using hS⟩), rfl, q _ (I.hok.fresh (Nat.le_refl _))⟩
  · unfold rngV
    rw [List.length_map, List.length_range]
    exact big_size (n := (hi - lo).toNat) (by omega)
  · refine vals_of_get hl fun j w hj => ?_
    have hj2 : acc'[j]? = some w := by simpa using hj
    obtain ⟨tt, e⟩ := hb j w hj2
    have hjl : j < (hi - lo).toNat := by
      have := (List.getElem?_eq_some_iff.mp hj).1
      rw [Array.length_toList, ha] at this
      exact this
    refine ⟨.int (lo + j), ?_, ⟨tt, by rw [e, Int.mul_one]⟩⟩
    unfold rngV
    rw [List.getElem?_map, List.getElem?_range hjl]
    rfl
def eListR (fs : Rho → Rs (List Da)) : Sem1 := fun ρ => (fs ρ).bind fun ds => match ds with
  | [.int a, .int b] => if 0 ≤ a ∧ a ≤ 1000000 ∧ -1000000 ≤ b ∧ b ≤ 1000000 then .ok (.ow (rngD a (b - a).toNat)) else .no
  | _ => .no
theorem RepAll.rng {T : Tx} {H : Hp} (lo : Int) (n : Nat) : RepAll T H (rngV lo n) (rngD lo n) := by
  unfold rngV rngD
  generalize List.range n = l
  induction l with
  | nil => exact .nil
  | cons k l ih => exact .cons (.int _) ih
section
variable {X : Cx} {T : Tx} {W : WX} {fs : Rho → Rs (List Da)} {a b : Expr} {p p2 pos pos2 : Pos}
theorem e_listR (hc : X.calm = true) (hg : Gl X "list") (hm : X.mg "list" = none) (hg2 : Gl X "range") (hm2 : X.mg "range" = none) (ha : PA X [a, b] (tA T W fs))
    (hb1 : bootBuiltins "list" = some (.type "list") := by decide +kernel) (hb2 : bootBuiltins "range" = some (.type "range") := by decide +kernel)
    (he2 : starEach [a, b] X.env = (false, eval a X.env) :: starEach [b] X.env := by rfl) (hpl2 : (backTo pos2 (starEach [b] X.env)).any (·.1) = false := by rfl)
    (he : starEach [.Call (.Name "range" p2) [a, b] [] pos2] X.env = (false, eval (.Call (.Name "range" p2) [a, b] [] pos2) X.env) :: starEach [] X.env := by rfl) (hpl : (backTo pos (starEach [] X.env)).any (·.1) = false := by rfl) :
    PE X (.Call (.Name "list" p) [.Call (.Name "range" p2) [a, b] [] pos2] [] pos) (tD T W (eListR fs)) :=
  pe_imp (pe_callTy (cr_listR hc) hg hm hb1 (pa_cons (pe_callTy cr_range2 hg2 hm2 hb2 ha (by decide) (by decide) he2 hpl2) pa_nil he) (by decide) (by decide) he hpl) fun σ H Q ⟨F, ρ, e, vw, hp⟩ => by
    refine bind_a e vw hp fun ds vs F1 H1 g1 r1 hp1 => ?_
    split at hp1
    · rename_i x y
      split at hp1
      · rename_i hz
        cases r1 with
        | cons q1 q2 => cases q1; cases q2 with
          | cons q2 q3 =>
            cases q2; cases q3
            refine ⟨x, y, rfl, fun q hq => ?_⟩
            refine ⟨q, x, y, rfl, upd_same, hz, fun l hl => ?_⟩
            have g2 : Grow F1 H1 F1 (upd H1 q (.rng x y)) := Grow.own g1.s hq
            exact new_ow g2.s (RepAll.rng x _) (Post.mono g2 hp1) hl
      · exact hp1.elim
    · exact hp1.elim
/-! ### abs, is None -/
def kAbs : List Da → Option Sl
  | [.int i] => some (.sh (.int (if i < 0 then -i else i)))
  | _ => none
theorem rd_abs : RDA T (fun xs H Q => ∃ i, xs = [.int i] ∧ Q (.int (if i < 0 then -i else i)) H) kAbs := fun F H xs ds s Q ex r hk q => by
  cases r with
  | nil => cases hk
  | cons r1 r2 =>
    cases r1 with
    | int i => cases r2 with
      | nil => cases hk; exact ⟨i, rfl, q _ F H (Grow.refl ex) (.int _)⟩
      | cons _ _ => cases hk
    | _ => cases r2 <;> cases hk
def isNon : Da → Bool
  | .non => true
  | _ => false
def kIsN (d e : Da) : Option Sl := match e with
  | .non => some (.sh (.bl (isNon d)))
  | _ => none
theorem rd_isN : RD2 T (fun x y H Q => y = .non ∧ Q (.bl (decide (x = .non))) H) kIsN := fun F H x y d e s Q ex rx ry hk q => by
  cases ry with
  | non =>
    cases hk
    refine ⟨rfl, ?_⟩
    have : decide (x = V.non) = isNon d := by cases rx <;> rfl
    rw [this]
    exact q _ F H (Grow.refl ex) (.bl _)
  | _ => cases hk
end
end G6

namespace G6
open PySem PySem.Spec PyProof.Rows L2
/-! ### the two classes -/
def spInit1 (C : Addr) : Sp := fun vs H Q _ => ∃ (p dx : Addr) (v : V), vs = [.ref p, v] ∧ H p = some (.ins C dx []) ∧ ∀ H' : Hp, H' p = some (.ins C dx [("total", v)]) → (∀ b, b ≠ p → H' b = H b) → Q .non H'
def spInit2 (C : Addr) : Sp := fun vs H Q _ => ∃ (p dx : Addr) (v u : V), vs = [.ref p, v, u] ∧ H p = some (.ins C dx []) ∧ ∀ H' : Hp, H' p = some (.ins C dx [("one", v), ("other", u)]) → (∀ b, b ≠ p → H' b = H b) → Q .non H'
theorem putF1 {v : V} : putF "total" v [] = ([(("total" : Str), v)] : List (Str × V)) := rfl
theorem putF2 {v u : V} : putF "other" u (putF "one" v []) = ([(("one" : Str), v), (("other" : Str), u)] : List (Str × V)) := by
  show (if ("one" : Str) = "other" then [(("one" : Str), u)] else (("one" : Str), v) :: putF "other" u []) = ([(("one" : Str), v), (("other" : Str), u)] : List (Str × V))
  rw [if_neg (by decide +kernel)]
  rfl
theorem make_grow {F H H' : Hp} {x dx : Addr} {o : HO} (e : Ex F H) (hx : H x = none) (hdx : H dx = none) (h1 : H' x = some o) (h2 : ∀ b, b ≠ x → H' b = (upd H dx (.own x)) b) : Grow F H (upd F x o) H' := by
  have k : ∀ a u, H a = some u → H' a = some u := fun a u ha => by
    have ne : a ≠ x := ne_of_none ha hx
    have ne2 : a ≠ dx := ne_of_none ha hdx
    rw [h2 a ne, upd_ne ne2]
    exact ha
  refine ⟨Ex.new (e.back hx), k, fun a u q => ?_, fun a u q => ?_⟩
  · by_cases z : a = x
    · subst z; rw [upd_same] at q; cases q; exact h1
    · rw [upd_ne z] at q; exact k a u (e a u q)
  · by_cases z : a = x
    · subst z; exact .inr hx
    · rw [upd_ne z] at q; exact .inl q
def eEven (fs : Rho → Rs (List Da)) : Sem1 := fun ρ => (fs ρ).bind fun ds => match ds with
  | [d] => .ok (.sh (.even d))
  | _ => .no
def eUnl (fs : Rho → Rs (List Da)) : Sem1 := fun ρ => (fs ρ).bind fun ds => match ds with
  | [d, e] => .ok (.sh (.unl d e))
  | _ => .no
section
variable {X : Cx} {T : Tx} {W : WX} {f : Sem1} {fs : Rho → Rs (List Da)} {p p2 pos apos : Pos} {fI : Addr} {fd : FuncData} {e1 e2 o e : Expr} {x : Str}
theorem e_even (M : Mk X.K T.ce fI) (G : FnOk X.prog X.w X.K X.mg X.base CX0 1 fI fd ["self", "total"] (spInit1 T.ce)) (hr : Room 2 X.A) (hg : Gl X x) (hm : X.mg x = some (.ref T.ce)) (hb : Binds X.K fd ["self", "total"] []) (ha : PA X [e1] (tA T W fs))
    (hdb : (x == ("__debug__" : Str)) = false := by decide) (he : starEach [e1] X.env = (false, eval e1 X.env) :: starEach [] X.env := by rfl) (hpl : (backTo pos (starEach [] X.env)).any (·.1) = false := by rfl) :
    PE X (.Call (.Name x p) [e1] [] pos) (tD T W (eEven fs)) :=
  pe_imp (pe_make (E := fun _ _ _ => False) M G hr hg hm hb .nil pass0 ha hdb he hpl) fun σ H Q ⟨F, ρ, e, vw, hp⟩ => by
    refine bind_a e vw hp fun ds vs F1 H1 g1 r1 hp1 => ?_
    split at hp1
    · rename_i d
      cases r1 with
      | cons q1 q2 =>
        cases q2
        rename_i v
        intro x dx hx hdx hne
        refine ⟨x, dx, v, rfl, upd_same, fun H' h1 h2 => ⟨rfl, ?_⟩⟩
        have g := make_grow g1.s hx hdx h1 (fun b hb => by rw [h2 b hb, upd_ne hb])
        exact hp1 (.ref x) _ H' g (.even upd_same (q1.mono (Ex.new (g1.s.back hx))))
    · exact hp1.elim
theorem e_unl (M : Mk X.K T.cu fI) (G : FnOk X.prog X.w X.K X.mg X.base CX0 1 fI fd ["self", "one", "other"] (spInit2 T.cu)) (hr : Room 2 X.A) (hg : Gl X x) (hm : X.mg x = some (.ref T.cu)) (hb : Binds X.K fd ["self", "one", "other"] []) (ha : PA X [e1, e2] (tA T W fs))
    (hdb : (x == ("__debug__" : Str)) = false := by decide) (he : starEach [e1, e2] X.env = (false, eval e1 X.env) :: starEach [e2] X.env := by rfl) (hpl : (backTo pos (starEach [e2] X.env)).any (·.1) = false := by rfl) :
    PE X (.Call (.Name x p) [e1, e2] [] pos) (tD T W (eUnl fs)) :=
  pe_imp (pe_make (E := fun _ _ _ => False) M G hr hg hm hb .nil pass0 ha hdb he hpl) fun σ H Q ⟨F, ρ, e, vw, hp⟩ => by
    refine bind_a e vw hp fun ds vs F1 H1 g1 r1 hp1 => ?_
    split at hp1
    · rename_i d d2
      cases r1 with
      | cons q1 q2 => cases q2 with
        | cons q2 q3 =>
          cases q3
          rename_i v u
          intro x dx hx hdx hne
          refine ⟨x, dx, _, _, rfl, upd_same, fun H' h1 h2 => ⟨rfl, ?_⟩⟩
          have g := make_grow g1.s hx hdx h1 (fun b hb => by rw [h2 b hb, upd_ne hb])
          exact hp1 (.ref x) _ H' g (.unl upd_same (q1.mono (Ex.new (g1.s.back hx))) (q2.mono (Ex.new (g1.s.back hx))))
    · exact hp1.elim
/-! fields -/
def kTotal : Da → Option Sl
  | .even d => some (.sh d)
  | _ => none
def kOne : Da → Option Sl
  | .unl d _ => some (.sh d)
  | _ => none
def kOther : Da → Option Sl
  | .unl _ d => some (.sh d)
  | _ => none
theorem look1 {v : V} : List.lookup ("total" : Str) [(("total" : Str), v)] = some v := by simp [List.lookup]
theorem look2 {v u : V} : List.lookup ("one" : Str) [(("one" : Str), v), (("other" : Str), u)] = some v := by simp [List.lookup]
theorem look3 {v u : V} : List.lookup ("other" : Str) [(("one" : Str), v), (("other" : Str), u)] = some u := by
  have : (("other" : Str) == ("one" : Str)) = false := by decide +kernel
  simp [List.lookup, this]
theorem e_total (hK : T.K = X.K) (cl : Cls X.K T.ce) (na : NoAttr X.K T.ce "total") (ho : PE X o (tD T W f)) (hb : attributeBase o "total" X.env (eval o X.env) = eval o X.env := by rfl) : PE X (.Attribute o "total" pos) (tD T W (eUn kTotal f)) :=
  pe_imp (pe_fld ho hb) fun σ H Q ⟨F, ρ, e, vw, hp⟩ => by
    refine bind_d e vw hp fun d v F1 H1 g1 r1 hp1 => ?_
    cases r1 with
    | even h r => exact ⟨_, _, _, _, _, rfl, g1.s _ _ h, cl, na, look1, post_sh g1.s r hp1⟩
    | _ => exact hp1.elim
theorem e_one_ (hK : T.K = X.K) (cl : Cls X.K T.cu) (na : NoAttr X.K T.cu "one") (ho : PE X o (tD T W f)) (hb : attributeBase o "one" X.env (eval o X.env) = eval o X.env := by rfl) : PE X (.Attribute o "one" pos) (tD T W (eUn kOne f)) :=
  pe_imp (pe_fld ho hb) fun σ H Q ⟨F, ρ, e, vw, hp⟩ => by
    refine bind_d e vw hp fun d v F1 H1 g1 r1 hp1 => ?_
    cases r1 with
    | unl h r r2 => exact ⟨_, _, _, _, _, rfl, g1.s _ _ h, cl, na, look2, post_sh g1.s r hp1⟩
    | _ => exact hp1.elim
theorem e_other (hK : T.K = X.K) (cl : Cls X.K T.cu) (na : NoAttr X.K T.cu "other") (ho : PE X o (tD T W f)) (hb : attributeBase o "other" X.env (eval o X.env) = eval o X.env := by rfl) : PE X (.Attribute o "other" pos) (tD T W (eUn kOther f)) :=
  pe_imp (pe_fld ho hb) fun σ H Q ⟨F, ρ, e, vw, hp⟩ => by
    refine bind_d e vw hp fun d v F1 H1 g1 r1 hp1 => ?_
    cases r1 with
    | unl h r r2 => exact ⟨_, _, _, _, _, rfl, g1.s _ _ h, cl, na, look3, post_sh g1.s r2 hp1⟩
    | _ => exact hp1.elim
/-! isinstance(x, C), C an own class -/
structure IsC (K : PySem.W.Frag) (C : Addr) : Prop where
  cl : Cls K C
  ha : PySem.W.findIn K (.ref C) "__class__" = some (some (.builtin "object.__class__"))
  hn : PySem.W.specialIn K (.builtin "object.__class__") "__get__" = some (some (.builtin "getset_descriptor.__get__"))
  ht : PySem.W.takesIn K (.builtin "object.__class__") = some true
  hm : PySem.W.mroIn K C (.type "object") = some true
def kIsC (b1 b2 : Bool) : Da → Option Sl
  | .even _ => some (.sh (.bl b1))
  | .unl _ _ => some (.sh (.bl b2))
  | _ => none
theorem e_isC {C : Addr} {b1 b2 : Bool} (hK : T.K = X.K) (i1 : IsC X.K T.ce) (i2 : IsC X.K T.cu) (k1 : PySem.W.kitOne X.K (.ref T.ce) (.ref C) = some b1) (k2 : PySem.W.kitOne X.K (.ref T.cu) (.ref C) = some b2) (hg : Gl X "isinstance") (hm : X.mg "isinstance" = none) (ho : PE X o (tD T W f)) (hg2 : Gl X x) (hm2 : X.mg x = some (.ref C))
    (hd2 : (x == ("__debug__" : Str)) = false := by decide) (hb : bootBuiltins "isinstance" = some (.builtin "isinstance") := by decide +kernel)
    (hs1 : starEach [.Name x p2] X.env = (false, eval (.Name x p2) X.env) :: starEach [] X.env := by rfl)
    (he : starEach (o :: [.Name x p2]) X.env = (false, eval o X.env) :: starEach [.Name x p2] X.env := by rfl) (hpl : (backTo pos (starEach [.Name x p2] X.env)).any (·.1) = false := by rfl) :
    PE X (.Call (.Name "isinstance" p) [o, .Name x p2] [] pos) (tD T W (eUn (kIsC b1 b2) f)) :=
  pe_imp (pe_callB call_isi hg hm hb (pa_cons ho (pa_cons (pe_glob (v := .ref C) hg2 hm2 rfl hd2) pa_nil hs1) he) (by decide) (by decide) he hpl) fun σ H Q ⟨F, ρ, e, vw, hp⟩ => by
    refine bind_d e vw hp fun d v F1 H1 g1 r1 hp1 => ?_
    cases r1 with
    | even h r => exact ⟨_, .ref C, .ref T.ce, .ref C, b1, rfl, .own C, .base (.ins (g1.s _ _ h) i1.cl i1.ha i1.hn i1.ht i1.hm), k1, post_sh g1.s (.bl b1) hp1⟩
    | unl h r r2 => exact ⟨_, .ref C, .ref T.cu, .ref C, b2, rfl, .own C, .base (.ins (g1.s _ _ h) i2.cl i2.ha i2.hn i2.ht i2.hm), k2, post_sh g1.s (.bl b2) hp1⟩
    | _ => exact hp1.elim
/-! x.shows(e) -/
def okO (r : Rs Sl) : Rs Sl := match r with
  | .ok s => .ok s
  | _ => .no
def eShows (f : Sem1) (fs : Rho → Rs (List Da)) (m1 m2 : List Da → Rs Sl) : Sem1 := fun ρ => (dat (f ρ)).bind fun d => match d with
  | .even t => (fs ρ).bind fun ds => okO (m1 (.even t :: ds))
  | .unl a b => (fs ρ).bind fun ds => okO (m2 (.unl a b :: ds))
  | _ => .no
theorem no_shows1 {v : V} : List.lookup ("shows" : Str) [(("total" : Str), v)] = none := by
  have : (("shows" : Str) == ("total" : Str)) = false := by decide +kernel
  simp [List.lookup, this]
theorem no_shows2 {v u : V} : List.lookup ("shows" : Str) [(("one" : Str), v), (("other" : Str), u)] = none := by
  have : (("shows" : Str) == ("one" : Str)) = false := by decide +kernel
  have h2 : (("shows" : Str) == ("other" : Str)) = false := by decide +kernel
  simp [List.lookup, this, h2]
theorem eq_d {σ : St} {F H : Hp} {ρ : Rho} {d : Da} {Q' : VK} (e : Ex F H) (vw : View T F σ ρ) (hd : dat (f ρ) = .ok d) (q : ∀ v F' H', Grow F H F' H' → Rep T F' v d → Q' v H') : tD T W f σ H Q' := by
  refine ⟨F, ρ, e, vw, ?_⟩
  cases hs : f ρ with
  | no => rw [hs] at hd; cases hd
  | ex c => rw [hs] at hd; cases hd
  | ok s =>
    rw [hs] at hd
    cases hv : s.view with
    | none => simp only [dat, hv] at hd; cases hd
    | some d' =>
      simp only [dat, hv] at hd
      cases hd
      intro v F' H' g r
      obtain ⟨F2, g2, r2⟩ := r.see g hv
      exact q v F2 H' g2 r2
theorem e_shows {m1 m2 : List Da → Rs Sl} {n : Nat} (hn : ∀ (ρ : Rho) (ds : List Da), fs ρ = .ok ds → ds.length = n)
    (h1 : PE X (.Call (.Attribute o "shows" apos) [e] [] pos) (tMeth T.ce "shows" (spS T (n + 1) m1) [] (fun _ _ _ => False) (tD T W f) (tA T W fs)))
    (h2 : PE X (.Call (.Attribute o "shows" apos) [e] [] pos) (tMeth T.cu "shows" (spS T (n + 1) m2) [] (fun _ _ _ => False) (tD T W f) (tA T W fs))) :
    PE X (.Call (.Attribute o "shows" apos) [e] [] pos) (tD T W (eShows f fs m1 m2)) :=
  pe_imp (pe_orR h1 h2) fun σ H Q ⟨F, ρ, ex, vw, hp⟩ => by
    have key : ∀ (m : List Da → Rs Sl) (C : Addr) (d : Da) (v : V) (F1 H1 : Hp), Grow F H F1 H1 → Rep T F1 v d → Post T W σ F1 H1 Q ((fs ρ).bind fun ds => okO (m (d :: ds))) → tA T W fs σ H1 fun vs H2 => spS T (n + 1) m (v :: (vs ++ [])) H2 Q (fun _ _ _ => False) := by
      intro m C d v F1 H1 g1 r1 hp1
      refine ⟨F1, ρ, g1.s, vw.mono g1.f, ?_⟩
      cases hf : fs ρ with
      | no => rw [hf] at hp1; exact hp1.elim
      | ex c => rw [hf] at hp1; exact hp1
      | ok ds =>
        rw [hf] at hp1
        intro vs F2 H2 g2 r2
        rw [List.append_nil]
        refine ⟨by rw [List.length_cons, r2.length, hn ρ ds hf], F2, d :: ds, g2.s, .cons (r1.mono g2.f) r2, ?_⟩
        simp only [Rs.bind] at hp1
        have hp' : Post T W σ F2 H2 Q (okO (m (d :: ds))) := Post.mono g2 hp1
        cases hg : m (d :: ds) with
        | no => rw [hg] at hp'; exact hp'.elim
        | ex c => rw [hg] at hp'; exact hp'.elim
        | ok s => rw [hg] at hp'; exact hp'
    cases hd : dat (f ρ) with
    | no => unfold eShows at hp; rw [hd] at hp; exact hp.elim
    | ex c =>
      unfold eShows at hp; rw [hd] at hp
      refine .inl ⟨F, ρ, ex, vw, ?_⟩
      cases hs : f ρ with
      | no => rw [hs] at hd; cases hd
      | ex c' => rw [hs] at hd; cases hd; exact hp
      | ok s =>
        rw [hs] at hd
        cases hv : s.view with
        | none => simp only [dat, hv] at hd; cases hd
        | some d => simp only [dat, hv] at hd; cases hd
    | ok d0 =>
      unfold eShows at hp
      rw [hd] at hp
      cases d0 with
      | even t =>
        left
        refine eq_d ex vw hd fun v F1 H1 g1 r1 => ?_
        have r1' := r1
        cases r1 with
        | even h r => exact ⟨_, _, _, rfl, g1.s _ _ h, no_shows1, key m1 T.ce _ _ F1 H1 g1 r1' (Post.mono g1 hp)⟩
      | unl a b =>
        right
        refine eq_d ex vw hd fun v F1 H1 g1 r1 => ?_
        have r1' := r1
        cases r1 with
        | unl h r r2 => exact ⟨_, _, _, rfl, g1.s _ _ h, no_shows2, key m2 T.cu _ _ F1 H1 g1 r1' (Post.mono g1 hp)⟩
      | _ => exact hp.elim
end
end G6
namespace G6
open PySem PySem.Spec PyProof.Rows L2
theorem passF {X : Cx} : Passes (L2N.CX X.prog X.w) X (fun _ _ _ => False) := fun _ _ _ _ _ _ _ ⟨_, _, _, _, _, _, _, _, _, _, _, _, z⟩ => z.elim
end G6

namespace G6
open PySem PySem.Spec PyProof.Rows L2
/-! ### xs[e1][e2], xs[e3][e4] = e -/
def sPutV (i : Nat) (d : Da) (f1 f2 : Sem1) : SemS := fun ρ => match ρ[i]?, dat (f1 ρ), dat (f2 ρ) with
  | some (.ow2 xss), .ok (.int k1), .ok (.int k2) => (match put2 xss k1 k2 d with
    | some yss => .nx (ρ.set i (.ow2 yss))
    | none => .no)
  | _, _, _ => .no
def sSwap (i : Nat) (f f1 f2 f3 f4 : Sem1) : SemS := fun ρ => match dat (f ρ) with
  | .ok (.tup [.int a1, .int a2]) => (match ρ[i]?, dat (f1 ρ), dat (f2 ρ) with
    | some (.ow2 xss), .ok (.int k1), .ok (.int k2) => (match put2 xss k1 k2 (.int a1) with
      | some yss => sPutV i (.int a2) f3 f4 (ρ.set i (.ow2 yss))
      | none => .no)
    | _, _, _ => .no)
  | _ => .no
section
variable {X : Cx} {T : Tx} {W : WX} {f f1 f2 f3 f4 : Sem1} {i : Nat} {st : Stmt} {F0 H0 F H : Hp} {σ : St} {ρ : Rho}
theorem put_tgt {v : V} {d : Da} {xss yss : List (List Da)} {k1 k2 : Int} {Q : St → Hp → Prop} (ok' : EnvOk T F0 H0 F H σ ρ) (r : Rep T F v d) (hr : ρ[i]? = some (.ow2 xss)) (hk1 : dat (f1 ρ) = .ok (.int k1)) (hk2 : dat (f2 ρ) = .ok (.int k2)) (hp : put2 xss k1 k2 d = some yss)
    (hq : ∀ H', EnvOk T F0 H0 F H' σ (ρ.set i (.ow2 yss)) → Q σ H') : gSub (tOp (rIxL X.K) (tVar i) (tD T W f1)) (tD T W f2) rSetL v σ H Q := by
  unfold put2 at hp
  cases hx : ixN xss.length k1 with
  | none => rw [hx] at hp; cases hp
  | some j1 =>
    rw [hx] at hp
    dsimp only at hp
    cases hxs : xss[j1]? with
    | none => rw [hxs] at hp; cases hp
    | some xs =>
      rw [hxs] at hp
      dsimp only at hp
      cases hx2 : ixN xs.length k2 with
      | none => rw [hx2] at hp; cases hp
      | some j2 =>
        rw [hx2] at hp
        dsimp only at hp
        cases hp
        obtain ⟨p0, as0, b1, b2, b3, b4⟩ := ok'.mut2 hr
        refine ⟨.ref p0, b1, ?_⟩
        refine run_v ok' hk1 fun u F2 H2 e2 r2 => ?_
        cases r2
        have ok2 := ok'.grow e2
        have hx0 := hx
        rw [← b3] at hx0
        obtain ⟨a, ha1, ha2⟩ := atI_refs hx0
        refine ⟨p0, as0.map V.ref, k1, .ref a, rfl, rfl, SqL.of (e2 _ _ b2), ha2, ?_⟩
        refine run_v ok2 hk2 fun u F3 H3 e3 r3 => ?_
        cases r3
        have ok3 := ok2.grow e3
        obtain ⟨p, as, a1, a2, a3, a4⟩ := ok3.mut2 hr
        rw [b1] at a1; cases a1
        have hH : H3 p0 = some (.lst (as0.map V.ref)) := e3 _ _ (e2 _ _ b2)
        rw [hH] at a2
        have has : as0 = as := by
          have := HO.lst.inj (Option.some.inj a2)
          exact List.map_inj_right (fun x y e => V.ref.inj e) |>.mp this
        subst has
        obtain ⟨vs, xs', c1, c2, c3, c4⟩ := a4 j1 a ha1
        rw [hxs] at c1; cases c1
        exact ⟨a, vs, k2, j2, rfl, rfl, c2, by rw [c3.length]; exact hx2, hq _ (c4 _ _ (c3.set r j2))⟩
theorem run_v2 {Q : VK} {d : Da} (ok : EnvOk T F0 H0 F H σ ρ) (hf : dat (f ρ) = .ok d) (q : ∀ v F' H', Ex H H' → Ex F' H' → Rep T F' v d → Q v H') : tD T W f σ H Q := by
  refine ⟨H, ρ, Ex.refl H, ok.view, ?_⟩
  cases hs : f ρ with
  | no => rw [hs] at hf; cases hf
  | ex c => rw [hs] at hf; cases hf
  | ok s =>
    rw [hs] at hf
    cases hv : s.view with
    | none => simp only [dat, hv] at hf; cases hf
    | some d' =>
      simp only [dat, hv] at hf
      cases hf
      intro v F' H' g r
      obtain ⟨F2, g2, r2⟩ := r.see g hv
      exact q v F2 H' g2.h g2.s r2
theorem s_swap (hK : T.K = X.K) (h : PS X st (tAsg (tD T W f) (gTup X.K 2 (gCons (gSub (tOp (rIxL X.K) (tVar i) (tD T W f1)) (tD T W f2) rSetL) (gCons (gSub (tOp (rIxL X.K) (tVar i) (tD T W f3)) (tD T W f4) rSetL) gNil))))) : PS X st (tS T W (sSwap i f f1 f2 f3 f4)) :=
  ps_imp h fun D σ H ⟨F0, H0, F, ρ, ok, hp⟩ => by
    unfold sSwap at hp
    split at hp
    · rename_i a1 a2 hf
      refine run_v2 ok hf fun v F' H' e s r => ?_
      have ok' := ok.grow e
      cases r with
      | tup h1 r1 =>
        cases r1 with
        | cons ra rt => cases rt with
          | cons rb rn =>
            cases rn
            cases ra
            cases rb
            split at hp
            · rename_i xss k1 k2 hr hk1 hk2
              cases hx : put2 xss k1 k2 (.int a1) with
              | none => rw [hx] at hp; exact hp.elim
              | some yss =>
                rw [hx] at hp
                dsimp only at hp
                refine ⟨_, _, rfl, by rw [← hK]; exact ex_t s h1, rfl, _, _, rfl, put_tgt ok' (.int a1) hr hk1 hk2 hx fun H2 ok2 => ⟨_, _, rfl, ?_⟩⟩
                unfold sPutV at hp
                split at hp
                · rename_i xss2 k3 k4 hr2 hk3 hk4
                  cases hy : put2 xss2 k3 k4 (.int a2) with
                  | none => rw [hy] at hp; exact hp.elim
                  | some zss =>
                    rw [hy] at hp
                    exact put_tgt ok2 (.int a2) hr2 hk3 hk4 hy fun H3 ok3 => ⟨rfl, hp σ F H3 (Ex.refl F) ok3⟩
                · exact hp.elim
            · exact hp.elim
    · exact hp.elim
end
/-! ### a or b, a a list -/
def orL (g : Sem1) (ρ : Rho) : Da → Rs Sl
  | .lst [] => g ρ
  | .lst (x :: xs) => .ok (.sh (.lst (x :: xs)))
  | _ => .no
def eOrL (f g : Sem1) : Sem1 := fun ρ => (dat (f ρ)).bind (orL g ρ)
theorem e_orL {X : Cx} {T : Tx} {W : WX} {a b : Expr} {f g : Sem1} {pos : Pos} {rest : List Expr} (hK : T.K = X.K) (ha : PE X a (tD T W f)) (hb : PE X (.BoolOp .Or (b :: rest) pos) (tD T W g)) : PE X (.BoolOp .Or (a :: b :: rest) pos) (tD T W (eOrL f g)) :=
  pe_imp (pe_orT ha hb) fun σ H Q ⟨F, ρ, e, vw, hp⟩ => bind_d e vw hp fun d v F1 H1 g1 r1 hp1 => by
    cases r1 with
    | lst h1 r2 =>
      cases r2 with
      | nil =>
        refine ⟨false, ?_, ?_⟩
        · exact .inl ⟨_, SqL.of (g1.s _ _ h1), rfl⟩
        · exact ⟨F1, ρ, g1.s, vw.mono g1.f, hp1⟩
      | cons ra rb =>
        refine ⟨true, ?_, ?_⟩
        · exact .inl ⟨_, SqL.of (g1.s _ _ h1), rfl⟩
        · exact post_sh g1.s (.lst h1 (.cons ra rb)) hp1
    | _ => exact hp1.elim
end G6

namespace G6
open PySem PySem.Spec PyProof.Rows L2
/-! ### an own list that is changed no more -/
def frz1 (ρ : Rho) (i : Nat) : Rho := match ρ[i]? with
  | some (.ow xs) => ρ.set i (.sh (.lst xs))
  | some (.ow2 xss) => ρ.set i (.sh (.lst (xss.map .lst)))
  | _ => ρ
def sFrz (i : Nat) (g : SemS) : SemS := fun ρ => g (frz1 ρ i)
section
variable {X : Cx} {T : Tx} {W : WX} {F0 H0 F H : Hp} {σ : St} {ρ : Rho} {i : Nat}
open Classical in
theorem frz_ok {s : Sl} {d : Da} (ok : EnvOk T F0 H0 F H σ ρ) (hi : ρ[i]? = some s) (hs : s.view = some d) : ∃ F', Ex F F' ∧ EnvOk T F0 H0 F' H σ (ρ.set i (.sh d)) := by
  obtain ⟨o, h1, h2, h3, h4⟩ := ok.ow
  let F' : Hp := fun a => if a ∈ o i then H a else F a
  have in_ : ∀ a, a ∈ o i → F' a = H a := fun a ha => if_pos ha
  have out_ : ∀ a, a ∉ o i → F' a = F a := fun a ha => if_neg ha
  have eF : Ex F F' := fun a u hu => by
    by_cases ha : a ∈ o i
    · rw [(h3 i a ha).1] at hu; cases hu
    · rw [out_ a ha]; exact hu
  have eH : Ex F' H := fun a u hu => by
    by_cases ha : a ∈ o i
    · rw [in_ a ha] at hu; exact hu
    · rw [out_ a ha] at hu; exact ok.g.s a u hu
  refine ⟨F', eF, ⟨⟨ok.g.f.trans eF, ok.g.h, eH, fun a u hu => ?_⟩, by rw [List.length_set]; exact ok.len, fun k => if k = i then [] else o k, ?_, ?_, ?_, ?_⟩⟩
  · by_cases ha : a ∈ o i
    · exact .inr (h3 i a ha).2.1
    · rw [out_ a ha] at hu; exact ok.g.n a u hu
  · intro k
    dsimp only
    split
    · exact List.nodup_nil
    · exact h1 k
  · intro k j a hk hj
    dsimp only at hk hj
    split at hk
    · cases hk
    · split at hj
      · cases hj
      · exact h2 k j a hk hj
  · intro k a hk
    dsimp only at hk
    split at hk
    · cases hk
    · rename_i hne
      have na : a ∉ o i := fun z => hne (h2 k i a hk z)
      rw [out_ a na]
      exact h3 k a hk
  · intro k t hk
    dsimp only
    by_cases e : k = i
    · subst e
      rw [if_pos rfl]
      rw [List.getElem?_set_self (List.getElem?_eq_some_iff.mp hi).1] at hk
      cases hk
      have := h4 k s hi
      cases s with
      | dead => cases hs
      | sh d' => cases hs; exact ⟨rfl, by obtain ⟨_, x, e1, e2⟩ := this; exact ⟨x, e1, e2.mono eF⟩⟩
      | ow xs =>
        cases hs
        obtain ⟨p, vs, q1, q2, q3, q4⟩ := this
        refine ⟨rfl, .ref p, q2, .lst (by rw [in_ p (by rw [q1]; exact List.mem_cons_self)]; exact q3) (q4.mono eF)⟩
      | ow2 xss =>
        cases hs
        obtain ⟨p, as, q1, q2, q3, q4⟩ := this
        refine ⟨rfl, .ref p, q2, .lst (by rw [in_ p (by rw [q1]; exact List.mem_cons_self)]; exact q3) (Rows.reps eF (fun a ha => in_ a (by rw [q1]; exact List.mem_cons_of_mem _ ha)) q4)⟩
    · rw [if_neg e]
      rw [List.getElem?_set_ne (Ne.symm e)] at hk
      exact SlE.mono eF (fun a _ => rfl) (h4 k t hk)
theorem post_mono {D : Ends} {F' : Hp} (e : Ex F F') : ∀ {u : Ou}, PostS T W D F0 H0 F u → PostS T W D F0 H0 F' u
  | .nx _, h => fun σ' F2 H' q ok => h σ' F2 H' (e.trans q) ok
  | .bk _, h => fun σ' F2 H' q ok => h σ' F2 H' (e.trans q) ok
  | .ct _, h => fun σ' F2 H' q ok => h σ' F2 H' (e.trans q) ok
  | .rt _, h => h
  | .ex _ _, h => fun C σ' F2 H' m q ok => h C σ' F2 H' m (e.trans q) ok
  | .no, h => h
theorem frz1_ok (ok : EnvOk T F0 H0 F H σ ρ) : ∃ F', Ex F F' ∧ EnvOk T F0 H0 F' H σ (frz1 ρ i) := by
  unfold frz1
  split
  · rename_i xs h; exact frz_ok ok h rfl
  · rename_i xss h; exact frz_ok ok h rfl
  · exact ⟨F, Ex.refl F, ok⟩
theorem frz_imp {g : SemS} {D : Ends} (h : tS T W (sFrz i g) D σ H) : tS T W g D σ H := by
  obtain ⟨F0, H0, F, ρ, ok, hp⟩ := h
  obtain ⟨F', e, ok'⟩ := frz1_ok (i := i) ok
  exact ⟨F0, H0, F', _, ok', post_mono e hp⟩
theorem s_frz {st : Stmt} {g : SemS} (h : PS X st (tS T W g)) : PS X st (tS T W (sFrz i g)) :=
  ps_imp h fun D σ H z => frz_imp z
end
end G6

namespace G6
open PySem PySem.Spec PyProof.Rows L2
/-! ### while -/
def loopW (c : Rho → Rs Bool) (g : SemS) : Nat → Rho → Ou
  | 0, _ => .no
  | n + 1, ρ => match c ρ with
    | .ok true => (match g ρ with
      | .nx ρ' => loopW c g n ρ'
      | _ => .no)
    | .ok false => .nx ρ
    | _ => .no
def sWhile (n : Nat) (c : Rho → Rs Bool) (g : SemS) : SemS := loopW c g n
section
variable {X : Cx} {T : Tx} {W : WX} {F0 H0 F H : Hp} {σ : St} {ρ : Rho} {i j n : Nat} {f : Sem1} {st : Stmt}
theorem s_while {c : Expr} {body : List Stmt} {fc : Rho → Rs Bool} {g : SemS} {pos : Pos} (hpo : PassesOwn (model X.prog X.w) X.A X.env X.xe) (hc : PT X c (tT T W fc)) (hb : PSs X body (tS T W g)) : PS X (.While c body [] pos) (tS T W (sWhile n fc g)) :=
  ps_imp (ps_while hpo hc hb) fun D σ H ⟨F0, H0, F, ρ, ok, hp⟩ => by
    refine ⟨fun m σ H => ∃ F ρ, EnvOk T F0 H0 F H σ ρ ∧ PostS T W D F0 H0 F (loopW fc g m ρ), ⟨n, F, ρ, ok, hp⟩, ?_⟩
    rintro m σ H ⟨F, ρ, ok, hp⟩
    cases m with
    | zero => exact hp.elim
    | succ m =>
      unfold loopW at hp
      cases hc : fc ρ with
      | no => rw [hc] at hp; exact hp.elim
      | ex c => rw [hc] at hp; exact hp.elim
      | ok b =>
        rw [hc] at hp
        refine ⟨H, ρ, Ex.refl H, ok.view, ?_⟩
        rw [hc]
        intro F' H' gr
        have ok' := ok.grow gr.h
        cases b with
        | false =>
          rw [if_neg Bool.false_ne_true]
          exact hp σ F H' (Ex.refl F) ok'
        | true =>
          rw [if_pos rfl]
          dsimp only at hp
          cases hg : g ρ with
          | nx ρ' =>
            rw [hg] at hp
            exact ⟨fun σ' H' => ∃ F ρ, EnvOk T F0 H0 F H' σ' ρ ∧ PostS T W D F0 H0 F (loopW fc g m ρ), fun σ' H' ⟨F, ρ, a, b⟩ => ⟨m, Nat.lt_succ_self m, F, ρ, a, b⟩, F0, H0, F, ρ, ok', by rw [hg]; exact fun σ' F' H' e k => ⟨F', ρ', k, PostS.mono e hp⟩⟩
          | _ => rw [hg] at hp; exact hp.elim
/-! ### xs.append(ys.pop(e)) -/
def sAppPop (i j : Nat) (f : Sem1) : SemS := fun ρ => match ρ[i]?, ρ[j]?, dat (f ρ) with
  | some (.ow xs), some (.ow ys), .ok (.int k) => if xs.length ≤ 1000000 ∧ ys.length ≤ 1000000 ∧ i ≠ j then (match ixN ys.length k with
    | some n => (match ys[n]? with
      | some y => .nx ((ρ.set j (.ow (ys.eraseIdx n))).set i (.ow (xs ++ [y])))
      | none => .no)
    | none => .no) else .no
  | _, _, _ => .no
theorem RepAll.erase {F : Hp} : ∀ {vs : List V} {xs : List Da} (n : Nat), RepAll T F vs xs → RepAll T F (vs.eraseIdx n) (xs.eraseIdx n)
  | _, _, _, .nil => .nil
  | _, _, 0, .cons _ r => r
  | _, _, n + 1, .cons a r => .cons a (RepAll.erase n r)
theorem RepAll.at_ {F : Hp} : ∀ {vs : List V} {xs : List Da} {n : Nat} {x : Da}, RepAll T F vs xs → xs[n]? = some x → ∃ v, vs[n]? = some v ∧ Rep T F v x
  | _, _, n, x, .nil, h => by simp at h
  | _, _, 0, x, .cons (v := v) a r, h => by simp at h; subst h; exact ⟨v, rfl, a⟩
  | _, _, n + 1, x, .cons a r, h => by
    obtain ⟨v, h1, h2⟩ := RepAll.at_ (n := n) r (by simpa using h)
    exact ⟨v, by simpa using h1, h2⟩
theorem s_appPop (h : PS X st (tDrop (tBM X.K "list" rAppend (tVar i) (tCons (tBM X.K "list" rPopAt (tVar j) (tCons (tD T W f) tNil)) tNil)))) : PS X st (tS T W (sAppPop i j f)) :=
  ps_imp h fun D σ H ⟨F0, H0, F, ρ, ok, hp⟩ => by
    unfold sAppPop at hp
    split at hp
    · rename_i xs ys k hi hj hk
      split at hp
      · rename_i hz
        obtain ⟨z1, z2, hij⟩ := hz
        cases hx : ixN ys.length k with
        | none => rw [hx] at hp; exact hp.elim
        | some m =>
          rw [hx] at hp
          dsimp only at hp
          cases hy : ys[m]? with
          | none => rw [hy] at hp; exact hp.elim
          | some y =>
            rw [hy] at hp
            dsimp only at hp
            obtain ⟨p, vs, e1, e2, e3, e4⟩ := ok.mutO hi
            refine ⟨.ref p, e1, tyl e2, ?_⟩
            obtain ⟨q, us, d1, d2, d3, d4⟩ := ok.mutO hj
            refine ⟨.ref q, d1, tyl d2, ?_⟩
            refine run_v ok hk fun u F' H' e r => ?_
            cases r
            have ok' := ok.grow e
            obtain ⟨q', us', f1, f2, f3, f4⟩ := ok'.mutO hj
            rw [d1] at f1; cases f1
            obtain ⟨w, w1, w2⟩ := f3.at_ hy
            obtain ⟨s1, s2, s3, s4⟩ := ixN_seq hx
            have z2' : (ys.length : Int) ≤ 1000000 := by omega
            refine ⟨q, us', k, m, w, rfl, rfl, f2, by omega, by omega, by rw [f3.length]; exact s1, w1, ?_⟩
            have ok2 := f4 _ _ (f3.erase m)
            have hi' : (ρ.set j (.ow (ys.eraseIdx m)))[i]? = some (.ow xs) := by rw [List.getElem?_set_ne (Ne.symm hij)]; exact hi
            obtain ⟨p', vs', g1, g2, g3, g4⟩ := ok2.mutO hi'
            rw [e1] at g1; cases g1
            exact ⟨p, vs', w, rfl, rfl, g2, lt_size (by rw [g3.length]; exact z1), hp σ F _ (Ex.refl F) (g4 _ _ (g3.append (.cons w2 .nil)))⟩
      · exact hp.elim
    · exact hp.elim
/-! ### xs[lo:hi:step], by written numbers -/
def pick {α : Type} (lo hi st : Int) (xs : List α) : List α := (sliceRange (sliceBounds (some lo) (some hi) (some st) xs.length).1 (sliceBounds (some lo) (some hi) (some st) xs.length).2.1 (sliceBounds (some lo) (some hi) (some st) xs.length).2.2).filterMap (xs[·]?)
theorem vals_pick {vs : List V} {us : List Value} (r : Vals vs us) : ∀ L : List Nat, Vals (L.filterMap (vs[·]?)) (L.filterMap (us[·]?))
  | [] => .nil
  | n :: L => by
    cases h : vs[n]? with
    | none => rw [List.filterMap_cons, List.filterMap_cons, h, r.none_of h]; exact vals_pick r L
    | some v =>
      obtain ⟨u, h1, h2⟩ := r.get h
      rw [List.filterMap_cons, List.filterMap_cons, h, h1]
      exact .cons h2 (vals_pick r L)
theorem RepAll.pick {F : Hp} {vs : List V} {ds : List Da} (r : RepAll T F vs ds) : ∀ L : List Nat, RepAll T F (L.filterMap (vs[·]?)) (L.filterMap (ds[·]?))
  | [] => .nil
  | n :: L => by
    cases h : ds[n]? with
    | none =>
      have h' : vs[n]? = none := by
        rw [List.getElem?_eq_none_iff] at h ⊢
        rw [r.length]; exact h
      rw [List.filterMap_cons, List.filterMap_cons, h, h']; exact RepAll.pick r L
    | some d =>
      obtain ⟨u, h1, h2⟩ := r.at_ h
      rw [List.filterMap_cons, List.filterMap_cons, h, h1]
      exact .cons h2 (RepAll.pick r L)
def tStp (K : PySem.W.Frag) (lo hi st : Int) (te : TE) : TE := fun σ H Q => te σ H fun x H1 => ∃ a xs, x = .ref a ∧ SqL K H1 a xs ∧ ∀ p, H1 p = none → Q (.ref p) (upd H1 p (.lst (pick lo hi st xs)))
theorem pe_stp {e : Expr} {te : TE} {lo hi st : Int} {k1 k2 k3 : Nat} {p1 p2 p3 p4 pos : Pos} (h0 : st ≠ 0) (he : PE X e te) : PE X (.Subscript e (.Slice (some (.Constant (.int lo) k1 p1)) (some (.Constant (.int hi) k2 p2)) (some (.Constant (.int st) k3 p3)) p4) pos) (tStp X.K lo hi st te) := by
  refine ⟨fun pins s σ H Q I h => ?_⟩
  refine Subscript_ (thn (he.run pins s σ H _ I h) fun v s1 ⟨x, H1, I1, r1, q1⟩ => ?_)
  obtain ⟨a, xs, ex, hx, q⟩ := q1
  subst ex
  cases r1
  have hl : PO X (some (.Constant (.int lo) k1 p1)) (tPart (tC (.int lo))) := po_some pe_int
  have hh : PO X (some (.Constant (.int hi) k2 p2)) (tPart (tC (.int hi))) := po_some pe_int
  have hst : PO X (some (.Constant (.int st) k3 p3)) (tPart (tC (.int st))) := po_some pe_int
  refine wpAny_Slice (thn (hl.run pins s1 σ H1 (fun o H2 => o = some lo ∧ H2 = H1) I1 ⟨lo, rfl, rfl, rfl⟩) fun vl s2 ⟨l, H2, I2, pl, el, e2⟩ => ?_)
  subst el e2
  refine thn (hh.run pins s2 σ H2 (fun o H3 => o = some hi ∧ H3 = H2) I2 ⟨hi, rfl, rfl, rfl⟩) fun vu s3 ⟨u, H3, I3, pu, eu, e3⟩ => ?_
  subst eu e3
  refine thn (hst.run pins s3 σ H3 (fun o H4 => o = some st ∧ H4 = H3) I3 ⟨st, rfl, rfl, rfl⟩) fun vs s4 ⟨o, H4, I4, ps, eo, e4⟩ => ?_
  subst eo e4
  have I5 : Inv X pins σ H4 { s4 with heap := s4.heap.push { cls := .type "slice", data := .fields #[vl, vu, vs] } } := I4.kept (t' := s4.toks) fun b ob q => Heap.get?_push_of_some _ q
  obtain ⟨its, r, ht, hz⟩ := I5.list hx
  have hlen := r.length
  refine tail_any (ops := [.ref a, .ref s4.heap.objs.size]) ht.isList.typeIs (PySem.slot_list_getitem.lookup) ?_ (by with_unfolding_all rfl)
  refine wpAny_getItem_list_slice ht.isList (Heap.IsSliceOf.new _ vl vu vs) pl pu ps (fun z => h0 (Option.some.inj z)) ?_ (by rw [List.size_toArray]; omega)
  have hle := slicePick_size_le its.toArray (some lo) (some hi) (some st)
  refine ⟨.ref _, _, I5.laid (t' := s4.toks) (o := .lst (pick lo hi st xs)) (fun b ob q => Heap.get?_push_of_some _ q) (Nat.le_refl _) ?_, rfl, q _ (I5.hok.fresh (Nat.le_refl _))⟩
  have hv : Vals (pick lo hi st xs) (pick lo hi st its) := by
    unfold pick
    rw [hlen]
    exact vals_pick r _
  have hp : slicePick its.toArray (some lo) (some hi) (some st) = (pick lo hi st its).toArray := by
    unfold slicePick pick
    simp only [List.size_toArray, List.getElem?_toArray]
  rw [hp, List.size_toArray] at hle
  rw [List.size_toArray] at hle
  refine ⟨by rw [hv.length]; omega, _, 0, hv, ?_⟩
  rw [← hp]
  exact Heap.get?_push_size _ rfl
def kStp (lo hi st : Int) (d : Da) : Option Sl := (asL d).map fun xs => .ow (pick lo hi st xs)
theorem e_stp {e : Expr} {lo hi st : Int} {k1 k2 k3 : Nat} {p1 p2 p3 p4 pos : Pos} (h0 : st ≠ 0) (hK : T.K = X.K) (he : PE X e (tD T W f)) : PE X (.Subscript e (.Slice (some (.Constant (.int lo) k1 p1)) (some (.Constant (.int hi) k2 p2)) (some (.Constant (.int st) k3 p3)) p4) pos) (tD T W (eUn (kStp lo hi st) f)) :=
  pe_imp (pe_stp h0 he) fun σ H Q ⟨F, ρ, e, vw, hp⟩ => by
    refine bind_d e vw hp fun d v F1 H1 g1 r1 hp1 => ?_
    unfold kStp at hp1
    cases hd : asL d with
    | none => rw [hd] at hp1; exact hp1.elim
    | some xs =>
      rw [hd] at hp1
      obtain ⟨a, vs, rfl, h1, h2⟩ := r1.list hd
      rw [hK] at h1
      refine ⟨a, vs, rfl, ex_l g1.s h1, fun p hn => new_ow g1.s ?_ hp1 hn⟩
      unfold pick
      rw [h2.length]
      exact h2.pick _
end
end G6

namespace G6
open PySem PySem.Spec PyProof.Rows L2
/-! ### the caught error -/
def Tx.at (T : Tx) (a : Addr) : Tx := { T with ea := some a }
section
variable {T : Tx} {a : Addr} {F H F0 H0 : Hp} {σ : St} {ρ : Rho}
mutual
theorem Rep.toAt (hT : T.ea = none) {H : Hp} : ∀ {v : V} {d : Da}, Rep T H v d → Rep (T.at a) H v d
  | _, _, .non => .non
  | _, _, .bl b => .bl b
  | _, _, .int i => .int i
  | _, _, .str s => .str s
  | _, _, .lst h r => .lst h (RepAll.toAt hT r)
  | _, _, .tup h r => .tup h (RepAll.toAt hT r)
  | _, _, .emp h => .emp h
  | _, _, .even h r => .even h (Rep.toAt hT r)
  | _, _, .unl h r q => .unl h (Rep.toAt hT r) (Rep.toAt hT q)
  | _, _, .scr h => .scr h
  | _, _, .kt h1 h2 h3 h r => .kt h1 h2 h3 h (RepAll.toAt hT r)
  | _, _, .err h => by rw [hT] at h; cases h
theorem RepAll.toAt (hT : T.ea = none) {H : Hp} : ∀ {vs : List V} {ds : List Da}, RepAll T H vs ds → RepAll (T.at a) H vs ds
  | _, _, .nil => .nil
  | _, _, .cons r t => .cons (Rep.toAt hT r) (RepAll.toAt hT t)
end
theorem Rows.toAt (hT : T.ea = none) : ∀ {as : List Addr} {xss : List (List Da)}, Rows T F H as xss → Rows (T.at a) F H as xss
  | [], [], _ => trivial
  | _ :: _, _ :: _, ⟨⟨vs, h, r⟩, t⟩ => ⟨⟨vs, h, r.toAt hT⟩, Rows.toAt hT t⟩
  | [], _ :: _, h => h.elim
  | _ :: _, [], h => h.elim
theorem EnvOk.toAt (hT : T.ea = none) (ok : EnvOk T F0 H0 F H σ ρ) : EnvOk (T.at a) F0 H0 F H σ ρ := by
  obtain ⟨o, h1, h2, h3, h4⟩ := ok.ow
  refine ⟨ok.g, ok.len, o, h1, h2, h3, fun i s hs => ?_⟩
  have := h4 i s hs
  cases s with
  | dead => exact this
  | sh d => obtain ⟨q, x, e1, e2⟩ := this; exact ⟨q, x, e1, e2.toAt hT⟩
  | ow xs => obtain ⟨p, vs, q1, q2, q3, q4⟩ := this; exact ⟨p, vs, q1, q2, q3, q4.toAt hT⟩
  | ow2 xss => obtain ⟨p, as, q1, q2, q3, q4⟩ := this; exact ⟨p, as, q1, q2, q3, q4.toAt hT⟩
theorem Rep.flat {v : V} {d : Da} (r : Rep (T.at a) H v d) (h : seps d = true) : Rep T H v d := by
  cases r with
  | non => exact .non
  | bl b => exact .bl b
  | int i => exact .int i
  | str s => exact .str s
  | _ => cases h
theorem RepAll.flat : ∀ {vs : List V} {ds : List Da}, RepAll (T.at a) H vs ds → ds.all seps = true → RepAll T H vs ds
  | _, _, .nil, _ => .nil
  | _, _, .cons r t, h => by
    rw [List.all_cons, Bool.and_eq_true] at h
    exact .cons (r.flat h.1) (RepAll.flat t h.2)
def flatS : Sl → Bool
  | .sh d => seps d
  | .ow xs => xs.all seps
  | _ => false
theorem SlV.flat {v : V} {s : Sl} (h : SlV (T.at a) H0 F H v s) (hs : flatS s = true) : SlV T H0 F H v s := by
  cases s with
  | dead => cases hs
  | sh d => exact Rep.flat h hs
  | ow xs => obtain ⟨p, vs, q1, q2, q3, q4, q5⟩ := h; exact ⟨p, vs, q1, q2, q3, q4, q5.flat hs⟩
  | ow2 xss => cases hs
end
/-! ### try: body, except C as e: suite that returns -/
def sTry (i : Nat) (cs : List Str) (g : SemS) (h : Str → SemS) : SemS := fun ρ => match g ρ with
  | .nx ρ' => .nx ρ'
  | .rt s => .rt s
  | .ex c ρ' => if cs.contains c = true then (match h c (ρ'.set i (.sh .err)) with
    | .rt s => if flatS s = true then .rt s else .no
    | _ => .no) else .no
  | _ => .no
section
variable {X : Cx} {T : Tx} {W : WX} {g : SemS} {h : Str → SemS} {i : Nat} {cs : List Str} {x n : Str} {C0 : Addr} {body suite : List Stmt} {b₀ : Stmt} {np pos pos' : Pos}
theorem s_try (hT : T.ea = none) (hmg : T.mg = X.mg) (hs : X.stack = X.env :: X.outer) (hf : X.env.frame = some X.env.locals) (hN : X.N.Nodup) (hi : X.N[i]? = some n) (hln : X.env.kindOf n = some .local) (hc : Names X x (.ref C0)) (tk : L2N.Takes X W)
    (hx : ∀ c, cs.contains c = true → ∀ C, X.mg c = some (.ref C) → PySem.W.exmOne X.K (.ref C) (.ref C0) = some true)
    (hb : ∀ (W : WX) (pn : List (Addr × Obj)) (xe : Value → Shared → Prop), L2N.Takes (X.tr pn xe) W → PSs (X.tr pn xe) body (tS T W g))
    (hsu : ∀ c, cs.contains c = true → ∀ C, X.mg c = some (.ref C) → ∀ (a : Addr) (oe : Obj) (pn : List (Addr × Obj)), L2N.Zn (.ref C) none oe → (∃ vs, oe.data = .fields vs) → PSs (X.suite a ((a, oe) :: pn)) (b₀ :: suite) (tS (T.at a) W (h c))) :
    PS X (.Try body [.ExceptHandler (some (.Name x np)) (some n) (b₀ :: suite) pos'] [] [] pos) (tS T W (sTry i cs g h)) := by
  refine ps_imp (L2N.ps_try_as (i := i) (tb := fun W => tS T W g) (ts := fun a cls d D σ H => ∃ c C, cs.contains c = true ∧ X.mg c = some (.ref C) ∧ cls = .ref C ∧ d = none ∧ tS (T.at a) W (h c) D σ H) hs hf hN hi hln hc tk (fun W pn xe tk _ => hb W pn xe tk) fun a oe cls d pn hz hfd => ?_) fun D σ H ⟨F0, H0, F, ρ, ok, hp⟩ => ?_
  · refine ⟨fun pins s σ H D I q => ?_⟩
    obtain ⟨c, C, q1, q2, rfl, rfl, q3⟩ := q
    exact (hsu c q1 C q2 a oe pn hz hfd).run pins s σ H D I q3
  · refine ⟨F0, H0, F, ρ, ok, ?_⟩
    unfold sTry at hp
    cases hg : g ρ with
    | nx ρ' => rw [hg] at hp; exact hp
    | rt s => rw [hg] at hp; exact hp
    | bk _ => rw [hg] at hp; exact hp.elim
    | ct _ => rw [hg] at hp; exact hp.elim
    | no => rw [hg] at hp; exact hp.elim
    | ex c ρ' =>
      rw [hg] at hp
      dsimp only at hp
      split at hp
      · rename_i hcs
        intro C σ' F' H' hm e1 ok'
        have hm' : X.mg c = some (.ref C) := by rw [← hmg]; exact hm
        refine ⟨true, hx c hcs C hm', fun _ a ha => ?_, fun z => Bool.noConfusion z⟩
        have ok2 : EnvOk (T.at a) F0 H0 F' H' (σ'.set i (some (.ref a))) (ρ'.set i (.sh .err)) := (ok'.toAt hT).putD (.err rfl)
        refine ⟨c, C, hcs, hm', rfl, rfl, F0, H0, F', _, ok2, ?_⟩
        cases hh : h c (ρ'.set i (.sh .err)) with
        | rt s =>
          rw [hh] at hp
          dsimp only at hp
          split at hp
          · rename_i hfl
            exact fun v F2 H2 gr sl => hp v F2 H2 gr (sl.flat hfl)
          · exact hp.elim
        | _ => rw [hh] at hp; exact hp.elim
      · exact hp.elim
end
/-! ### isinstance(e, C) -/
def kIsE (b : Bool) : Da → Option Sl
  | .err => some (.sh (.bl b))
  | _ => none
section
variable {X : Cx} {T : Tx} {W : WX} {f : Sem1} {o : Expr} {x : Str} {a D C : Addr} {oe : Obj} {pn : List (Addr × Obj)} {b : Bool} {p p2 pos : Pos}
theorem e_isE (EC : ExcC X.K D) (hz : Zc (.ref D) none oe) (hfd : ∃ vs, oe.data = .fields vs) (hk : PySem.W.kitOne X.K (.ref D) (.ref C) = some b) (hg : Gl (X.suite a ((a, oe) :: pn)) "isinstance") (hm : X.mg "isinstance" = none) (ho : PE (X.suite a ((a, oe) :: pn)) o (tD (T.at a) W f)) (hg2 : Gl (X.suite a ((a, oe) :: pn)) x) (hm2 : X.mg x = some (.ref C))
    (hd2 : (x == ("__debug__" : Str)) = false := by decide) (hb : bootBuiltins "isinstance" = some (.builtin "isinstance") := by decide +kernel)
    (hs1 : starEach [.Name x p2] X.env = (false, eval (.Name x p2) X.env) :: starEach [] X.env := by rfl)
    (he : starEach (o :: [.Name x p2]) X.env = (false, eval o X.env) :: starEach [.Name x p2] X.env := by rfl) (hpl : (backTo pos (starEach [.Name x p2] X.env)).any (·.1) = false := by rfl) :
    PE (X.suite a ((a, oe) :: pn)) (.Call (.Name "isinstance" p) [o, .Name x p2] [] pos) (tD (T.at a) W (eUn (kIsE b) f)) :=
  pe_imp (pe_callB (call_isE EC hz hfd) hg hm hb (pa_cons ho (pa_cons (pe_glob (v := .ref C) hg2 hm2 rfl hd2) pa_nil hs1) he) (by decide) (by decide) he hpl) fun σ H Q ⟨F, ρ, e, vw, hp⟩ => by
    refine bind_d e vw hp fun d v F1 H1 g1 r1 hp1 => ?_
    cases r1 with
    | err h =>
      cases h
      exact ⟨.ref C, .ref C, b, rfl, fun u r => by cases r; rfl, hk, post_sh g1.s (.bl b) hp1⟩
    | _ => exact hp1.elim
theorem e_isEb {t : String} (EC : ExcC X.K D) (hz : Zc (.ref D) none oe) (hfd : ∃ vs, oe.data = .fields vs) (hk : PySem.W.kitOne X.K (.ref D) (.type t) = some b) (hg : Gl (X.suite a ((a, oe) :: pn)) "isinstance") (hm : X.mg "isinstance" = none) (ho : PE (X.suite a ((a, oe) :: pn)) o (tD (T.at a) W f)) (hg2 : Gl (X.suite a ((a, oe) :: pn)) x) (hm2 : X.mg x = none) (hv2 : bootBuiltins x = some (.type t))
    (hn2 : x ≠ "__name__" := by decide) (hd2 : (x == ("__debug__" : Str)) = false := by decide) (hb : bootBuiltins "isinstance" = some (.builtin "isinstance") := by decide +kernel)
    (hs1 : starEach [.Name x p2] X.env = (false, eval (.Name x p2) X.env) :: starEach [] X.env := by rfl)
    (he : starEach (o :: [.Name x p2]) X.env = (false, eval o X.env) :: starEach [.Name x p2] X.env := by rfl) (hpl : (backTo pos (starEach [.Name x p2] X.env)).any (·.1) = false := by rfl) :
    PE (X.suite a ((a, oe) :: pn)) (.Call (.Name "isinstance" p) [o, .Name x p2] [] pos) (tD (T.at a) W (eUn (kIsE b) f)) :=
  pe_imp (pe_callB (call_isE EC hz hfd) hg hm hb (pa_cons ho (pa_cons (pe_bltn (v := .ty t) hg2 hm2 hv2 rfl hn2 hd2) pa_nil hs1) he) (by decide) (by decide) he hpl) fun σ H Q ⟨F, ρ, e, vw, hp⟩ => by
    refine bind_d e vw hp fun d v F1 H1 g1 r1 hp1 => ?_
    cases r1 with
    | err h =>
      cases h
      exact ⟨.ty t, .type t, b, rfl, fun u r => by cases r; rfl, hk, post_sh g1.s (.bl b) hp1⟩
    | _ => exact hp1.elim
/-! ### {} -/
theorem e_emp {X : Cx} {pos : Pos} : PE X (.Dict [] [] pos) (tD T W (eC .emp)) :=
  pe_imp pe_dnewK fun σ H Q ⟨F, ρ, e, vw, hp⟩ p hn => hp (.ref p) _ _ (Grow.new e hn) (.emp upd_same)
end
/-! ### x == [], whatever x holds -/
def kEqN (d e : Da) : Option Sl := match d, e with
  | .lst (_ :: _), .lst [] => some (.sh (.bl false))
  | d, e => kEq d e
def rEqS (K : PySem.W.Frag) : R2 := fun x y H Q => ∃ a b xs ys, x = .ref a ∧ y = .ref b ∧ SqL K H a xs ∧ SqL K H b ys ∧ xs.length ≠ ys.length ∧ Q (.bl false) H
def rEqN (K : PySem.W.Frag) : R2 := fun x y H Q => rEqD K x y H Q ∨ rEqS K x y H Q
theorem op_eqS {X : Cx} (hu : X.A.units < cLine) : OpR X (compareOp .Eq) (rEqS X.K) := by
  intro pins s σ H x y v u Q I rx ry h
  obtain ⟨a, b, xs, ys, rfl, rfl, h1, h2, hne, q⟩ := h
  cases rx
  cases ry
  obtain ⟨its, r1, l1, _⟩ := I.list h1
  obtain ⟨its2, r2, l2, _⟩ := I.list h2
  refine PySem.SeqAt.eq_list_lengthsAt l1.isList l2.isList ?_ hu ⟨.bl false, H, I, rfl, q⟩
  rw [List.size_toArray, List.size_toArray, ← r1.length, ← r2.length]
  exact bne_iff_ne.mpr hne
theorem op_eqN {X : Cx} (hu : X.A.units + 64 < cLine) : OpR X (compareOp .Eq) (rEqN X.K) := (op_eqD hu).or (op_eqS (by omega))
theorem rd_eqN {T : Tx} : RD2 T (rEqN T.K) kEqN := fun F H x y d e s Q ex rx ry hk q => by
  unfold kEqN at hk
  split at hk
  · cases hk
    refine .inr ?_
    cases rx with
    | lst h1 r1 => cases ry with
      | lst h2 r2 =>
        cases r2
        cases r1
        exact ⟨_, _, _, _, rfl, rfl, SqL.of (ex _ _ h1), SqL.of (ex _ _ h2), by simp, q _ F H (Grow.refl ex) (.bl _)⟩
  · exact .inl (rd_eq F H x y d e s Q ex rx ry hk q)
theorem kit_eqb {K : PySem.W.Frag} {u v : Value} {b : Bool} {x y : Str} (h : PySem.W.kitOne K u v = some b) (e : (x == y) = b) : PySem.W.kitOne K u v = some (x == y) := by rw [h, e]
end G6

namespace PySem
open PySem.Spec PyProof.Rows HotX
section
variable {prog : Program} {w : World} {A : Around} {E : Value → Shared → Prop} {s : Shared}
theorem pyNext_list_end_hot {it l x1 : Addr} {i : Nat} {items : Array Value} {Q : Option Value → Shared → Prop} (hot : HotAt A x1 s.heap) (hxi : x1 ≠ it)
    (hit : s.heap.IsListIter it l i) (hl : s.heap.IsList l items) (hx : items[i]? = none)
    (hQ : ∀ h', (∀ b o, b ≠ it → s.heap.get? b = some o → h'.get? b = some o) → Q none { s with heap := h' }) : wpAny (model prog w) A (pyNext (.ref it)) Q E s := by
  obtain ⟨o, ho, hc, hd⟩ := id hit
  obtain ⟨ol, hol, _, nl, hdl⟩ := hl
  obtain ⟨hh, o1, vs1, h1, d1, c1⟩ := hot
  unfold pyNext
  refine wpAny_bind (wpAny_attempt (wpAny_callSpecial?_slot (name := Str.ofString "__next__") hit.typeIs slot_listiter_next
    (wpAny_call_entry slot_listiter_next hit.typeIs entry_listiter_next ?_ (args_listiter_next _))))
  show wpAny _ _ (field (.ref it) 0 >>= _) _ _ s
  refine wpAny_bind (wpAny_field ho hd (x := .ref l) rfl ?_)
  show wpAny _ _ (if (Value.ref l == Value.none) = true then _ else _) _ _ s
  rw [if_neg (show ¬ ((Value.ref l == Value.none) = true) from Bool.false_ne_true)]
  show wpAny _ _ (field (.ref it) 1 >>= _) _ _ s
  refine wpAny_bind (wpAny_field ho hd (x := .int i 0) rfl ?_)
  show wpAny _ _ (seqItems? (.ref l) >>= _) _ _ s
  refine wpAny_bind (wpAny_seqItems hol hdl ?_)
  simp only [Int.toNat_natCast, hx]
  refine wpAny_bind (wpAny_rule (wpAny_bind (wpAny_setField ho hd (by simp) ?_)))
  show wpAny _ _ (newExc (.type "StopIteration") [] >>= _) _ _ _
  refine wpAny_bind ?_
  simp only [newExc, newTuple]
  refine wpAny_bind (wpAny_newObj_type ?_ (by size_fits))
  refine wpAny_bind (m := firstArgMember _ _) (wpAny_of_eq (a := Value.none) (by first | rfl | (simp only [firstArgMember]; rfl)) ?_)
  refine wpAny_newObj_type ?_ (by size_fits)
  refine raiseNew_hot (A := A.in1) (x1 := x1) ⟨hh, o1, vs1, Heap.get?_push_of_some _ (Heap.get?_push_of_some _ ((Heap.get?_update_other _ _ (Ne.symm hxi)).trans h1)), d1, c1⟩ (Nat.ne_of_lt (Heap.lt_size (Heap.get?_push_of_some _ ((Heap.get?_update_other _ _ (Ne.symm hxi)).trans h1)))) (Heap.get?_push_size _ rfl) rfl (by first | (simp; done) | (simp; omega) | (simp only [Array.size_append]; simp; omega)) ?_
  refine wpAny_bind (wpAny_isInstance (T := "StopIteration") (b := true) ⟨_, Heap.get?_update_self _ (Heap.get?_push_size _ rfl) rfl, rfl⟩ isSubtype_stop ?_)
  refine wpAny_pure (hQ _ fun b o e eb => ?_)
  have eb' := (Heap.get?_update_other s.heap (a := it) (Obj.mapFields fun x => x.setIfInBounds 0 Value.none) (Ne.symm e)).trans eb
  rw [Heap.get?_update_other _ _ (Nat.ne_of_gt (Heap.lt_size (Heap.get?_push_of_some _ eb')))]
  exact Heap.get?_push_of_some _ (Heap.get?_push_of_some _ eb')
theorem Walks.listH {x1 : Addr} (hh : A.handled = some (.ref x1)) (I ax : Addr) (hne : ax ≠ I) (hx : x1 ≠ I) (items : Array Value) :
    Walks prog w A I [I, ax, x1] [I] items.size (fun i v => items[i]? = some v) (fun i h => (h.IsListIter I ax i ∧ h.IsList ax items) ∧ HotAt A x1 h) where
  sub := fun b hb => by simp at hb; simp [hb]
  frame := fun _ _ _ st hk => ⟨⟨st.1.1.at fun o e => hk I (by simp) o e, st.1.2.at fun o e => hk ax (by simp) o e⟩, by
    obtain ⟨h1, o, vs, h2, h3, h4⟩ := st.2
    exact ⟨h1, o, vs, hk x1 (by simp) o h2, h3, h4⟩⟩
  item := fun i s Q E hi st hQ => by
    refine wpAny_pyNext_list_item st.1.1 st.1.2 (x := items[i]) (by simp [hi]) fun h' hit' hs' => ?_
    refine hQ _ h' s.toks (by simp [hi]) ⟨⟨hit', st.1.2.extBut hs'.extBut hne⟩, ?_⟩ fun b o hb e => hs'.extBut b o (fun h => hb (by simp [h])) e
    obtain ⟨h1, o, vs, h2, h3, h4⟩ := st.2
    exact ⟨h1, o, vs, hs'.extBut x1 o hx h2, h3, h4⟩
  done := fun s Q E st hQ => pyNext_list_end_hot st.2 hx st.1.1 st.1.2 (by simp) fun h' he' => hQ h' s.toks fun b o hb e => he' b o (fun h => hb (by simp [h])) e
  self := fun _ _ _ _ st hQ => wpAny_pyIter_listiter st.1.1 hQ
end
end PySem
namespace G6
open PySem PySem.Spec PyProof.Rows L2 HotX
theorem cr_anyH {X : Cx} (c : L2H.HotC X) : CallR X (.builtin "any") (rAny X.K) := by
  intro pins s σ H vs us Q I r h
  obtain ⟨a, bs, rfl, hs, q⟩ := h
  obtain ⟨its, rv, hl, _⟩ := I.list hs
  rw [Vals.ref1 r]
  have hb := rv.bls
  obtain ⟨x1, hot⟩ := c.at I
  obtain ⟨hh, o1, vs1, h1, d1, c1⟩ := id hot
  refine call_any_walk (iter_any hl.isList fun s₂ e2 st hne => ?_)
  subst e2
  refine ⟨_, _, _, _, _, _, _, rfl, Walks.listH (A := X.A.in1) (x1 := x1) hh _ a hne (Nat.ne_of_lt (Heap.lt_size h1)) its.toArray, ⟨st, hh, o1, vs1, Heap.get?_push_of_some _ h1, d1, c1⟩, truth_bools hb, fun h' tk hk => ?_⟩
  refine ⟨.bl _, H, I.kept fun b o eo => hk b o (fun hmem => ?_) (Heap.get?_push_of_some _ eo), ?_, q⟩
  · rcases List.mem_cons.mp hmem with e1 | hmem
    · exact absurd (e1 ▸ Heap.lt_size eo) (Nat.lt_irrefl _)
    · cases hmem
  · show Value.bool _ = Value.bool _
    rw [← L2.any_range, hb, List.size_toArray, List.length_map]
theorem hot_suite {X : Cx} {a : Addr} {oe : Obj} {pn : List (Addr × Obj)} {cls : Value} {d : Option Addr} (hz : L2N.Zn cls d oe) (hfd : ∃ vs, oe.data = .fields vs) : L2H.HotC (X.suite a ((a, oe) :: pn)) := by
  obtain ⟨vs, hv⟩ := hfd
  exact ⟨(a, oe), ⟨rfl, vs, hv, hz.2.2 vs hv⟩, List.mem_cons_self⟩
/-! ### len(set(xs)) -/
def lenSet (ns : List Int) : Nat := (firstMet (fun i => ns.getD i 0) ns.length).length
def kLenSet (d : Da) : Option Sl := ((asL d).bind asInts).bind fun ns => if ns.length ≤ 4000 then some (.sh (.int (lenSet ns : Nat))) else none
def tLenSetG (K : PySem.W.Frag) (ta : TE) : TE := fun σ H Q => ta σ H fun x H1 => ∃ (l : Addr) (ns : List Int), x = .ref l ∧ SqL K H1 l (ns.map V.int) ∧ ns.length ≤ 4000 ∧ Q (.int (lenSet ns : Nat)) H1
open RZ in
theorem pe_lenSetG {X : Cx} {a : Expr} {ta : TE} {p p2 q pos : Pos} (hg : Gl X "len") (hm : X.mg "len" = none) (hg2 : Gl X "set") (hm2 : X.mg "set" = none) (ha : PE X a ta) (hc : X.calm = true := by rfl)
    (na : starEach [a] X.env = (false, eval a X.env) :: starEach [] X.env := by rfl) : PE X (.Call (.Name "len" p) [.Call (.Name "set" p2) [a] [] q] [] pos) (tLenSetG X.K ta) := by
  refine ⟨fun pins s σ H Q I h => ?_⟩
  refine Call_ (ld_blt I hg hm boot_len ?_)
  refine PyProof.Rows.callWith_builtin1 (PyProof.Rows.args_cons ?_ rfl) rfl rfl
  refine Call_ (ld_blt I hg2 hm2 boot_set ?_)
  refine PyProof.Rows.callWith_type1 (PyProof.Rows.args_cons (thn (ha.run pins s σ H _ I h) fun v s1 ⟨x, H1, I1, r1, q1⟩ => PyProof.Rows.args_nil ?_) na) na rfl
  obtain ⟨l, ns, rfl, hq, hl, q1⟩ := q1
  cases r1
  obtain ⟨its, r, pl, hz⟩ := I1.list hq
  have hlen : its.toArray.size = ns.length := by rw [List.size_toArray, ← r.length, List.length_map]
  refine call_set_list (I1.ok.hd hc) pl.isList (by simpa using intsAre_vals r) (by rw [hlen]; unfold scanBound; omega) fun h' tk hS hk => ?_
  refine PyProof.Rows.args_nil ?_
  rw [hlen] at hS
  have hle := firstMet_length_le (fun i => ns.getD i 0) ns.length
  obtain ⟨o, es, ep, t, ho, hex, hd, _, _, _, hf, hn⟩ := hS
  have I2 : Inv X pins σ H1 { s1 with heap := h', toks := tk } := I1.kept fun b o e => hk b o (Heap.lt_size e) e
  exact call_len_set ho hex hd hf (by rw [hn] <;> omega) ⟨.int (lenSet ns : Nat), H1, I2.tok _, ⟨_, by rw [hn]; rfl⟩, q1⟩
theorem e_lenSet {X : Cx} {T : Tx} {W : WX} {f : Sem1} {a : Expr} {p p2 q pos : Pos} (hK : T.K = X.K) (hg : Gl X "len") (hm : X.mg "len" = none) (hg2 : Gl X "set") (hm2 : X.mg "set" = none) (ha : PE X a (tD T W f)) (hc : X.calm = true := by rfl)
    (na : starEach [a] X.env = (false, eval a X.env) :: starEach [] X.env := by rfl) : PE X (.Call (.Name "len" p) [.Call (.Name "set" p2) [a] [] q] [] pos) (tD T W (eUn kLenSet f)) :=
  pe_imp (pe_lenSetG hg hm hg2 hm2 ha hc na) fun σ H Q ⟨F, ρ, e, vw, hp⟩ => by
    refine bind_d e vw hp fun d v F1 H1 g1 r1 hp1 => ?_
    unfold kLenSet at hp1
    cases hd : asL d with
    | none => rw [hd] at hp1; exact hp1.elim
    | some xs =>
      rw [hd] at hp1
      cases hi : asInts xs with
      | none => simp only [Option.bind, hi] at hp1; exact hp1.elim
      | some ns =>
        simp only [Option.bind, hi] at hp1
        split at hp1
        · rename_i hz
          obtain ⟨a, vs, rfl, h1, h2⟩ := r1.list hd
          rw [hK] at h1
          have hxs := asInts_map hi
          subst hxs
          have hv : vs = ns.map V.int := h2.int_of
          subst hv
          exact ⟨a, ns, rfl, ex_l g1.s h1, hz, post_sh g1.s (.int _) hp1⟩
        · exact hp1.elim
/-! ### return [a, b, e]: own rows, given away -/
def sRet3 (i j : Nat) (f : Sem1) : SemS := fun ρ => match ρ[i]?, ρ[j]?, stf false f ρ with
  | some (.ow xs), some (.ow ys), .ok (.ow zs) => if i ≠ j then .rt (.ow2 [xs, ys, zs]) else .no
  | _, _, _ => .no
theorem s_ret3 {X : Cx} {T : Tx} {W : WX} {i j : Nat} {f : Sem1} {e : Expr} {pos : Pos} (he : PE X e (tLst (tCons (tVar i) (tCons (tVar j) (tCons (tD T W f) tNil))))) : PS X (.Return (some e) pos) (tS T W (sRet3 i j f)) :=
  ps_imp (ps_ret he) fun D σ H ⟨F0, H0, F, ρ, ok, hp⟩ => by
    unfold sRet3 at hp
    split at hp
    · rename_i xs ys zs hi hj hf
      split at hp
      · rename_i hij
        obtain ⟨o, h1, h2, h3, h4⟩ := ok.ow
        obtain ⟨p1, vs1, a1, a2, a3, a4⟩ := h4 i _ hi
        obtain ⟨p2, vs2, b1, b2, b3, b4⟩ := h4 j _ hj
        have m1 : p1 ∈ o i := by rw [a1]; exact List.mem_cons_self
        have m2 : p2 ∈ o j := by rw [b1]; exact List.mem_cons_self
        have ne12 : p1 ≠ p2 := fun z => hij (h2 i j p1 m1 (z ▸ m2))
        refine ⟨.ref p1, a2, .ref p2, b2, ?_⟩
        refine run_st (full := false) (P := fun r => r = .ok (.ow zs)) ok hf (fun z => by cases z) (fun c z => by cases z) fun s v F' H' g r hq => ?_
        cases hq
        obtain ⟨p3, vs3, rfl, c1, c2, c3, c4⟩ := r
        refine ⟨small_size (by simp), fun p hn => hp (.ref p) F' _ ((ok.g.trans g).trans (Grow.own g.s hn)) ?_⟩
        have out : ∀ q u, H q = some u → F q = none → F' q = none := fun q u hq hfq => by
          cases hF : F' q with
          | none => rfl
          | some w =>
            rcases g.n q w hF with z | z
            · rw [hfq] at z; cases z
            · rw [hq] at z; cases z
        have n1 : p ≠ p1 := fun z => by subst z; rw [g.h _ _ a3] at hn; cases hn
        have n2 : p ≠ p2 := fun z => by subst z; rw [g.h _ _ b3] at hn; cases hn
        have n3 : p ≠ p3 := fun z => by subst z; rw [c3] at hn; cases hn
        have n13 : p1 ≠ p3 := fun z => by subst z; rw [a3] at c1; cases c1
        have n23 : p2 ≠ p3 := fun z => by subst z; rw [b3] at c1; cases c1
        refine ⟨p, [p1, p2, p3], rfl, ok.g.h.back (g.h.back hn), g.s.back hn, upd_same, ?_, ?_, ?_⟩
        · simp only [List.nodup_cons, List.mem_cons, List.not_mem_nil, or_false, not_or, List.nodup_nil, and_true, not_false_iff]
          exact ⟨⟨n1, n2, n3⟩, ⟨ne12, n13⟩, n23⟩
        · intro a ha
          simp only [List.mem_cons, List.not_mem_nil, or_false] at ha
          rcases ha with rfl | rfl | rfl
          · exact ⟨(h3 i _ m1).2.1, out _ _ a3 (h3 i _ m1).1⟩
          · exact ⟨(h3 j _ m2).2.1, out _ _ b3 (h3 j _ m2).1⟩
          · exact ⟨ok.g.h.back c1, c2⟩
        · exact ⟨⟨vs1, by rw [upd_ne (Ne.symm n1)]; exact g.h _ _ a3, a4.mono g.f⟩, ⟨vs2, by rw [upd_ne (Ne.symm n2)]; exact g.h _ _ b3, b4.mono g.f⟩, ⟨vs3, by rw [upd_ne (Ne.symm n3)]; exact c3, c4⟩, trivial⟩
      · exact hp.elim
    · exact hp.elim
end G6

namespace G6
open PySem PySem.Spec PyProof.Rows L2
/-! ### evaluation lemmas (plain) -/
theorem kMod_int {i j : Int} (h : 0 < j) : kMod (.int i) (.int j) = some (.sh (.int (i % j))) := by simp [kMod, kI, h]
theorem kDiv_int {i j : Int} (h : divOk i j = true) : kDiv (.int i) (.int j) = some (.sh (.int (i / j))) := by simp [kDiv, kI, h]
theorem kMul_int {i j : Int} (h : mulOk i j = true) : kMul (.int i) (.int j) = some (.sh (.int (i * j))) := by simp [kMul, kI, h]
theorem kSub_int {i j : Int} : kSub (.int i) (.int j) = some (.sh (.int (i - j))) := rfl
theorem kAdd_int {i j : Int} : kAdd (.int i) (.int j) = some (.sh (.int (i + j))) := rfl
theorem kLt_int {i j : Int} : kLt (.int i) (.int j) = some (.sh (.bl (decide (i < j)))) := rfl
theorem kLe_int {i j : Int} : kLe (.int i) (.int j) = some (.sh (.bl (decide (i ≤ j)))) := rfl
theorem kGt_int {i j : Int} : kGt (.int i) (.int j) = some (.sh (.bl (decide (j < i)))) := rfl
theorem kGe_int {i j : Int} : kGe (.int i) (.int j) = some (.sh (.bl (decide (j ≤ i)))) := rfl
theorem kEq_int {i j : Int} : kEq (.int i) (.int j) = some (.sh (.bl (i == j))) := rfl
theorem kNe_int {i j : Int} : kNe (.int i) (.int j) = some (.sh (.bl (!(i == j)))) := rfl
theorem kEq_str {i j : Str} (h : PyData.strOk i = true) (h' : PyData.strOk j = true) : kEq (.str i) (.str j) = some (.sh (.bl (i == j))) := by
  simp [kEq, nrm, fits, h, h', eqF]
theorem kEq_pair {a b c d : Int} : kEq (.tup [.int a, .int b]) (.tup [.int c, .int d]) = some (.sh (.bl ((a == c) && ((b == d) && true)))) := rfl
theorem kNe_pair {a b c d : Int} : kNe (.tup [.int a, .int b]) (.tup [.int c, .int d]) = some (.sh (.bl (!((a == c) && ((b == d) && true))))) := rfl
theorem beq_i {a b : Int} (h : a = b) : (a == b) = true := by simp [h]
theorem bne_i {a b : Int} (h : ¬ a = b) : (a == b) = false := by simp [h]
theorem mulOk_l {i j : Int} (h1 : -18446744073709551616 < i) (h2 : i < 18446744073709551616) : mulOk i j = true := by
  unfold mulOk
  have : i.natAbs < 2 ^ 64 := by have : (2:Nat) ^ 64 = 18446744073709551616 := by decide
                                 omega
  simp [this]
theorem mulOk_r {i j : Int} (h1 : -18446744073709551616 < j) (h2 : j < 18446744073709551616) : mulOk i j = true := by
  unfold mulOk
  have : j.natAbs < 2 ^ 64 := by have : (2:Nat) ^ 64 = 18446744073709551616 := by decide
                                 omega
  simp [this]
theorem log2_lt_of {n k : Nat} (h : n < 2 ^ k) (hk : 0 < k) : n.log2 < k := by
  by_cases h0 : n = 0
  · subst h0; simpa using hk
  · exact (Nat.log2_lt h0).mpr h
theorem mulOk_b {i j : Int} (a b : Nat) (h1 : i.natAbs < 2 ^ a) (h2 : j.natAbs < 2 ^ b) (h : a + b ≤ 100000000) (ha : 0 < a) (hb : 0 < b) : mulOk i j = true := by
  unfold mulOk
  have := log2_lt_of h1 ha
  have := log2_lt_of h2 hb
  have : i.natAbs.log2 + j.natAbs.log2 < 100000000 := by omega
  simp [this]
theorem divOk_b {i j : Int} (a : Nat) (h0 : 0 < j) (h1 : j.natAbs < 2 ^ a) (h : a ≤ 9000) (ha : 0 < a) : divOk i j = true := by
  unfold divOk
  have := log2_lt_of h1 ha
  have : j.natAbs.log2 < 9000 := by omega
  simp [this, h0]
theorem divOk_s {i j : Int} (h0 : 0 < j) (h1 : j < 18446744073709551616) : divOk i j = true := by
  refine divOk_b 64 h0 ?_ (by decide) (by decide)
  have : (2:Nat) ^ 64 = 18446744073709551616 := by decide
  omega
/-- a loop that runs through -/
theorem loopF_inv {is : List Nat} {un : Unp} {g : SemS} (I : Rho → Prop) : ∀ {ds : List Da}, (∀ d ∈ ds, ∀ ρ, I ρ → ∃ xs ρ', un d = some xs ∧ xs.length = is.length ∧ (g (setR ρ is xs) = .nx ρ' ∨ g (setR ρ is xs) = .ct ρ') ∧ I ρ') → ∀ {ρ}, I ρ → ∃ ρ', loopF is un g ds ρ = .nx ρ' ∧ I ρ'
  | [], _, ρ, h => ⟨ρ, rfl, h⟩
  | d :: ds, hs, ρ, h => by
    obtain ⟨xs, ρ', h1, h2, h3, h4⟩ := hs d List.mem_cons_self ρ h
    obtain ⟨ρ'', h5, h6⟩ := loopF_inv I (fun e he => hs e (List.mem_cons_of_mem _ he)) h4
    refine ⟨ρ'', ?_, h6⟩
    unfold loopF
    rw [h1]
    dsimp only
    rw [if_pos h2]
    rcases h3 with h3 | h3 <;> rw [h3] <;> exact h5
end G6
namespace G6
open PySem PySem.Spec PyProof.Rows L2
theorem mulOk_m {i j : Int} (h1 : -10 ^ 85 < i) (h2 : i < 10 ^ 85) (h3 : -10 ^ 85 < j) (h4 : j < 10 ^ 85) : mulOk i j = true := by
  refine mulOk_b 300 300 ?_ ?_ (by decide) (by decide) (by decide)
  · have : (10:Nat) ^ 85 < 2 ^ 300 := by decide +kernel
    omega
  · have : (10:Nat) ^ 85 < 2 ^ 300 := by decide +kernel
    omega
theorem divOk_m {i j : Int} (h0 : 0 < j) (h2 : j < 10 ^ 85) : divOk i j = true := by
  refine divOk_b 300 h0 ?_ (by decide) (by decide)
  have : (10:Nat) ^ 85 < 2 ^ 300 := by decide +kernel
  omega
theorem kDivmod_int {i j : Int} (h : divOk i j = true) : kDivmod [.int i, .int j] = some (.sh (.tup [.int (i / j), .int (i % j)])) := by simp [kDivmod, h]
theorem kIn_pair {r a b : Int} : kIn (.int r) (.tup [.int a, .int b]) = some (.sh (.bl ((a == r) || ((b == r) || false)))) := rfl
theorem loopF_nil {is : List Nat} {un : Unp} {g : SemS} {ρ : Rho} : loopF is un g [] ρ = .nx ρ := rfl
theorem loopF_cons {is : List Nat} {un : Unp} {g : SemS} {ρ : Rho} {d : Da} {ds : List Da} : loopF is un g (d :: ds) ρ = (match un d with
    | none => .no
    | some xs => if xs.length = is.length then
        (match g (setR ρ is xs) with
        | .nx ρ' => loopF is un g ds ρ'
        | .ct ρ' => loopF is un g ds ρ'
        | .bk ρ' => .nx ρ'
        | .rt s => .rt s
        | .ex c r => .ex c r
        | .no => .no) else .no) := rfl
/-! ### evaluation, step by step -/
def Ou.andThen (o : Ou) (b : SemS) : Ou := match o with
  | .nx ρ' => b ρ'
  | .rt s => .rt s
  | .bk r => .bk r
  | .ct r => .ct r
  | .ex c r => .ex c r
  | .no => .no
def fin {α : Type} (r : Rs α) (ρ : Rho) (k : α → Ou) : Ou := match r with
  | .ok a => k a
  | .ex c => .ex c ρ
  | .no => .no
def selS (b : Bool) (x y : SemS) (ρ : Rho) : Ou := match b with
  | true => x ρ
  | false => y ρ
def selE (b : Bool) (x y : Sem1) (ρ : Rho) : Rs Sl := match b with
  | true => x ρ
  | false => y ρ
def andT (r : Rs Bool) (u : Rho → Rs Bool) (ρ : Rho) : Rs Bool := match r with
  | .ok true => u ρ
  | .ok false => .ok false
  | .ex c => .ex c
  | .no => .no
def orT (r : Rs Bool) (u : Rho → Rs Bool) (ρ : Rho) : Rs Bool := match r with
  | .ok true => .ok true
  | .ok false => u ρ
  | .ex c => .ex c
  | .no => .no
def andE (r : Rs Da) (u : Sem1) (ρ : Rho) : Rs Sl := match r with
  | .ok (.bl true) => u ρ
  | .ok (.bl false) => .ok (.sh (.bl false))
  | .ok _ => .no
  | .ex c => .ex c
  | .no => .no
def orE (r : Rs Da) (u : Sem1) (ρ : Rho) : Rs Sl := match r with
  | .ok (.bl true) => .ok (.sh (.bl true))
  | .ok (.bl false) => u ρ
  | .ok _ => .no
  | .ex c => .ex c
  | .no => .no
def chN (r : Option Sl) (k' : Da → Da → Option Sl) (y : Da) (h : Sem1) (ρ : Rho) : Rs Sl := match r with
  | some (.sh (.bl true)) => (dat (h ρ)).bind fun z => ofO (k' y z)
  | some (.sh (.bl false)) => .ok (.sh (.bl false))
  | _ => .no
def chN2 (r : Option Sl) (k2 k3 : Da → Da → Option Sl) (y : Da) (h l : Sem1) (ρ : Rho) : Rs Sl := match r with
  | some (.sh (.bl true)) => (dat (h ρ)).bind fun z => chN (k2 y z) k3 z l ρ
  | some (.sh (.bl false)) => .ok (.sh (.bl false))
  | _ => .no
def dB (r : Da) : Rs Bool := match r with
  | .bl b => .ok b
  | _ => .no
def dN (r : Da) : Rs Sl := match r with
  | .bl b => .ok (.sh (.bl (!b)))
  | _ => .no
def tgtN (is : List Nat) (ρ : Rho) (o : Option (List Da)) : Ou := match o with
  | some ds => if ds.length = is.length then .nx (setR ρ is ds) else .no
  | none => .no
def parN (i j : Nat) (ρ : Rho) (l : List Da) : Ou := match l with
  | [d, e] => .nx ((ρ.set i (.sh d)).set j (.sh e))
  | _ => .no
def retN (o : Option Sl) : Ou := match o with
  | some .dead => .no
  | some s => .rt s
  | none => .no
def tabN (tab : Str → Option Da) (d : Da) : Rs Sl := match d with
  | .str z => (match tab z with
    | some d => .ok (.sh d)
    | none => .no)
  | _ => .no
def idxN (g : Sem1) (ρ : Rho) (d : Da) : Rs Sl := match d with
  | .kt xs => (dat (g ρ)).bind fun y => ofO (kIndexT xs y)
  | _ => .no
def loopN (is : List Nat) (un : Unp) (g : SemS) (ds : List Da) (o : Ou) : Ou := match o with
  | .nx ρ' => loopF is un g ds ρ'
  | .ct ρ' => loopF is un g ds ρ'
  | .bk ρ' => .nx ρ'
  | .rt s => .rt s
  | .ex c r => .ex c r
  | .no => .no
section
variable {a b : SemS} {f g h l : Sem1} {t u : Rho → Rs Bool} {ρ ρ' : Rho} {i j : Nat} {full : Bool} {k k' k3 : Da → Da → Option Sl} {fs : Rho → Rs (List Da)} {s : Sl} {d : Da} {c : Str}
theorem sSeq_e : sSeq a b ρ = (a ρ).andThen b := by unfold sSeq Ou.andThen; cases a ρ <;> rfl
theorem then_nx : (Ou.nx ρ).andThen b = b ρ := rfl
theorem then_rt : (Ou.rt s).andThen b = .rt s := rfl
theorem then_ex : (Ou.ex c ρ).andThen b = .ex c ρ := rfl
theorem fin_ok {α : Type} {x : α} {q : α → Ou} : fin (.ok x) ρ q = q x := rfl
theorem fin_ex {α : Type} {q : α → Ou} : fin (.ex c) ρ q = .ex c ρ := rfl
theorem sSet_e : sSet i full f ρ = fin (dat (stf full f ρ)) ρ fun d => .nx (ρ.set i (.sh d)) := by unfold sSet fin; cases dat (stf full f ρ) <;> rfl
theorem sOwn_e : sOwn i full f ρ = fin (stf full f ρ) ρ fun d => .nx (ρ.set i d) := by unfold sOwn fin; cases stf full f ρ <;> rfl
theorem sRet_e : sRet full f ρ = fin (stf full f ρ) ρ .rt := by unfold sRet fin; cases stf full f ρ <;> rfl
theorem sExpr_e : sExpr f ρ = fin (f ρ) ρ fun _ => .nx ρ := by unfold sExpr fin; cases f ρ <;> rfl
theorem sRetVar_e : sRetVar i ρ = retN ρ[i]? := by
  unfold sRetVar retN
  cases ρ[i]? with
  | none => rfl
  | some s => cases s <;> rfl
theorem retN_sh : retN (some (.sh d)) = .rt (.sh d) := rfl
theorem retN_ow {xs : List Da} : retN (some (.ow xs)) = .rt (.ow xs) := rfl
theorem retN_ow2 {xs : List (List Da)} : retN (some (.ow2 xs)) = .rt (.ow2 xs) := rfl
theorem sIf_e : sIf t a b ρ = fin (t ρ) ρ fun x => selS x a b ρ := by
  unfold sIf fin
  cases t ρ with
  | ok x => cases x <;> rfl
  | ex c => rfl
  | no => rfl
theorem selS_t : selS true a b ρ = a ρ := rfl
theorem selS_f : selS false a b ρ = b ρ := rfl
theorem selE_t : selE true f g ρ = f ρ := rfl
theorem selE_f : selE false f g ρ = g ρ := rfl
theorem stf_f : stf false f ρ = f (Rho.shs ρ) := rfl
theorem stf_t : stf true f ρ = (f ρ).bind fun s => if sep s = true then .ok s else .no := rfl
theorem bind_ok {α β : Type} {x : α} {q : α → Rs β} : (Rs.ok x).bind q = q x := rfl
theorem bind_ex {α β : Type} {q : α → Rs β} : (Rs.ex c).bind q = .ex c := rfl
theorem dat_ok : dat (.ok s) = (match s.view with | some d => .ok d | none => .no) := rfl
theorem dat_sh : dat (.ok (.sh d)) = .ok d := rfl
theorem dat_ow {xs : List Da} : dat (.ok (.ow xs)) = .ok (.lst xs) := rfl
theorem dat_ow2 {xs : List (List Da)} : dat (.ok (.ow2 xs)) = .ok (.lst (xs.map .lst)) := rfl
theorem dat_ex : dat (.ex c) = .ex c := rfl
theorem ofO_some {α : Type} {x : α} : ofO (some x) = .ok x := rfl
theorem eVar_e : eVar i ρ = (match ρ[i]? with | some s => (match s.view with | some d => .ok (.sh d) | none => .no) | none => .no) := rfl
theorem eOp_e : eOp k f g ρ = (dat (f ρ)).bind fun x => (dat (g ρ)).bind fun y => ofO (k x y) := rfl
theorem eUn_e {q : Da → Option Sl} : eUn q f ρ = (dat (f ρ)).bind fun x => ofO (q x) := rfl
theorem eIf_e : eIf t f g ρ = (t ρ).bind fun x => selE x f g ρ := by
  unfold eIf
  cases t ρ with
  | ok x => cases x <;> rfl
  | ex c => rfl
  | no => rfl
theorem fB_e : fB f ρ = (dat (f ρ)).bind dB := by
  unfold fB
  cases dat (f ρ) with
  | ok x => cases x <;> rfl
  | ex c => rfl
  | no => rfl
theorem dB_bl {x : Bool} : dB (.bl x) = .ok x := rfl
theorem fAnd_e : fAnd t u ρ = andT (t ρ) u ρ := by
  unfold fAnd andT
  cases t ρ with
  | ok x => cases x <;> rfl
  | ex c => rfl
  | no => rfl
theorem fOr_e : fOr t u ρ = orT (t ρ) u ρ := by
  unfold fOr orT
  cases t ρ with
  | ok x => cases x <;> rfl
  | ex c => rfl
  | no => rfl
theorem andT_t : andT (.ok true) u ρ = u ρ := rfl
theorem andT_f : andT (.ok false) u ρ = .ok false := rfl
theorem andT_x : andT (.ex c) u ρ = .ex c := rfl
theorem orT_t : orT (.ok true) u ρ = .ok true := rfl
theorem orT_f : orT (.ok false) u ρ = u ρ := rfl
theorem orT_x : orT (.ex c) u ρ = .ex c := rfl
theorem fNot_e : fNot t ρ = (t ρ).bind fun x => .ok (!x) := rfl
theorem eAnd_e : eAnd f g ρ = andE (dat (f ρ)) g ρ := by
  unfold eAnd andE
  cases dat (f ρ) with
  | ok x => cases x with
    | bl x => cases x <;> rfl
    | _ => rfl
  | ex c => rfl
  | no => rfl
theorem eOr_e : eOr f g ρ = orE (dat (f ρ)) g ρ := by
  unfold eOr orE
  cases dat (f ρ) with
  | ok x => cases x with
    | bl x => cases x <;> rfl
    | _ => rfl
  | ex c => rfl
  | no => rfl
theorem andE_t : andE (.ok (.bl true)) g ρ = g ρ := rfl
theorem andE_f : andE (.ok (.bl false)) g ρ = .ok (.sh (.bl false)) := rfl
theorem orE_t : orE (.ok (.bl true)) g ρ = .ok (.sh (.bl true)) := rfl
theorem orE_f : orE (.ok (.bl false)) g ρ = g ρ := rfl
theorem eNot_e : eNot f ρ = (dat (f ρ)).bind dN := by
  unfold eNot
  cases dat (f ρ) with
  | ok x => cases x <;> rfl
  | ex c => rfl
  | no => rfl
theorem dN_bl {x : Bool} : dN (.bl x) = .ok (.sh (.bl (!x))) := rfl
theorem eCh_e : eCh k k' f g h ρ = (dat (f ρ)).bind fun x => (dat (g ρ)).bind fun y => chN (k x y) k' y h ρ := rfl
theorem chN_t {y : Da} : chN (some (.sh (.bl true))) k' y h ρ = (dat (h ρ)).bind fun z => ofO (k' y z) := rfl
theorem chN_f {y : Da} : chN (some (.sh (.bl false))) k' y h ρ = .ok (.sh (.bl false)) := rfl
theorem eCh3_e : eCh3 k k' k3 f g h l ρ = (dat (f ρ)).bind fun x => (dat (g ρ)).bind fun y => chN2 (k x y) k' k3 y h l ρ := rfl
theorem chN2_t {y : Da} : chN2 (some (.sh (.bl true))) k' k3 y h l ρ = (dat (h ρ)).bind fun z => chN (k' y z) k3 z l ρ := rfl
theorem chN2_f {y : Da} : chN2 (some (.sh (.bl false))) k' k3 y h l ρ = .ok (.sh (.bl false)) := rfl
theorem aCons_e : aCons f fs ρ = (dat (f ρ)).bind fun d => (fs ρ).bind fun ds => .ok (d :: ds) := rfl
theorem aNil_e : aNil ρ = .ok [] := rfl
theorem eLst_e : eLst fs ρ = (fs ρ).bind fun ds => if ds.length ≤ 1000 then .ok (.ow ds) else .no := rfl
theorem eTup_e : eTup fs ρ = (fs ρ).bind fun ds => if ds.length ≤ 1000 then .ok (.sh (.tup ds)) else .no := rfl
theorem eCall_e {q : List Da → Option Sl} : eCall q fs ρ = (fs ρ).bind fun ds => ofO (q ds) := rfl
theorem eFn_e {q : List Da → Rs Sl} : eFn q fs ρ = (fs ρ).bind q := rfl
theorem eC_e : eC d ρ = .ok (.sh d) := rfl
theorem sTgt_e {is : List Nat} {un : Unp} : sTgt is un full f ρ = fin (dat (stf full f ρ)) ρ fun d => tgtN is ρ (un d) := by
  unfold sTgt fin tgtN
  cases dat (stf full f ρ) with
  | ok d => first | rfl | (dsimp only; cases un d <;> rfl)
  | ex c => rfl
  | no => rfl
theorem tgtN_some {is : List Nat} {ds : List Da} : tgtN is ρ (some ds) = if ds.length = is.length then .nx (setR ρ is ds) else .no := rfl
theorem sPar_e : sPar i j fs ρ = fin (fs (Rho.shs ρ)) ρ (parN i j ρ) := by
  unfold sPar fin parN
  cases fs (Rho.shs ρ) with
  | ok l => match l with
    | [] => rfl
    | [_] => rfl
    | [_, _] => rfl
    | _ :: _ :: _ :: _ => rfl
  | ex c => rfl
  | no => rfl
theorem parN_e {x y : Da} : parN i j ρ [x, y] = .nx ((ρ.set i (.sh x)).set j (.sh y)) := rfl
theorem sRaise_e : sRaise c ρ = .ex c ρ := rfl
theorem sNil_e : sNil ρ = .nx ρ := rfl
theorem eTab_e {tab : Str → Option Da} : eTab tab f ρ = (dat (f ρ)).bind (tabN tab) := by
  unfold eTab tabN
  cases dat (f ρ) with
  | ok x => cases x <;> rfl
  | ex c => rfl
  | no => rfl
theorem tabN_e {tab : Str → Option Da} {z : Str} {x : Da} (e : tab z = some x) : tabN tab (.str z) = .ok (.sh x) := by simp only [tabN, e]
theorem eIndexT_e : eIndexT f g ρ = (dat (f ρ)).bind (idxN g ρ) := by
  unfold eIndexT idxN
  cases dat (f ρ) with
  | ok x => cases x <;> rfl
  | ex c => rfl
  | no => rfl
theorem idxN_e {xs : List Da} : idxN g ρ (.kt xs) = (dat (g ρ)).bind fun y => ofO (kIndexT xs y) := rfl
theorem sFor_e {fI : Rho → Rs (List Da)} {is : List Nat} {un : Unp} : sFor fI is un a ρ = fin (fI (Rho.shs ρ)) ρ fun items => loopF is un a items ρ := by unfold sFor fin; cases fI (Rho.shs ρ) <;> rfl
theorem iL_e {un : Unp} : iL un f ρ = (dat (f ρ)).bind fun d => ofO (un d) := rfl
theorem loop_cons {is : List Nat} {un : Unp} {ds xs : List Da} (e : un d = some xs) (hl : xs.length = is.length) : loopF is un a (d :: ds) ρ = loopN is un a ds (a (setR ρ is xs)) := by
  rw [loopF_cons, e]
  dsimp only
  rw [if_pos hl]
  unfold loopN
  cases a (setR ρ is xs) <;> rfl
theorem loop_un1 {i : Nat} {ds : List Da} : loopF [i] un1 a (d :: ds) ρ = loopN [i] un1 a ds (a (ρ.set i (.sh d))) := loop_cons (xs := [d]) (is := [i]) rfl rfl
theorem loopN_nx {is : List Nat} {un : Unp} {ds : List Da} : loopN is un a ds (.nx ρ) = loopF is un a ds ρ := rfl
theorem loopN_rt {is : List Nat} {un : Unp} {ds : List Da} : loopN is un a ds (.rt s) = .rt s := rfl
theorem loopN_ex {is : List Nat} {un : Unp} {ds : List Da} : loopN is un a ds (.ex c ρ) = .ex c ρ := rfl
theorem loopN_no {is : List Nat} {un : Unp} {ds : List Da} : loopN is un a ds .no = .no := rfl
theorem endS_rt : endS (.rt s) = .ok s := rfl
theorem endS_nx : endS (.nx ρ) = .ok (.sh .non) := rfl
theorem endS_ex : endS (.ex c ρ) = .ex c := rfl
theorem view_sh : (Sl.sh d).view = some d := rfl
theorem view_ow {xs : List Da} : (Sl.ow xs).view = some (.lst xs) := rfl
theorem view_ow2 {xs : List (List Da)} : (Sl.ow2 xs).view = some (.lst (xs.map .lst)) := rfl
theorem shs_cons : Rho.shs (s :: ρ) = shO s :: Rho.shs ρ := rfl
theorem shs_nil : Rho.shs [] = [] := rfl
theorem shO_sh : shO (.sh d) = .sh d := rfl
theorem shO_dead : shO .dead = .dead := rfl
theorem shO_ow {xs : List Da} : shO (.ow xs) = .dead := rfl
theorem shO_ow2 {xs : List (List Da)} : shO (.ow2 xs) = .dead := rfl
theorem setR_c {i : Nat} {is : List Nat} {ds : List Da} : setR ρ (i :: is) (d :: ds) = setR (ρ.set i (.sh d)) is ds := rfl
theorem setR_n {ds : List Da} : setR ρ [] ds = ρ := by cases ds <;> rfl
theorem un1_e : un1 d = some [d] := rfl
theorem unT_e {xs : List Da} : unT (.tup xs) = some xs := rfl
theorem oNone_e : oNone ρ = .ok none := rfl
def dI (d : Da) : Rs (Option Int) := match d with
  | .int i => .ok (some i)
  | _ => .no
theorem oSome_e : oSome f ρ = (dat (f ρ)).bind dI := by
  unfold oSome
  cases dat (f ρ) with
  | ok x => cases x <;> rfl
  | ex c => rfl
  | no => rfl
theorem dI_int {i : Int} : dI (.int i) = .ok (some i) := rfl
end
end G6

namespace G6
open PySem PySem.Spec PyProof.Rows L2
/-! ### sizes -/
def Bt (k : Nat) (i : Int) : Prop := i.natAbs < 2 ^ k
section
variable {a b k : Nat} {i j : Int}
theorem Bt.mono (h : Bt a i) (hk : a ≤ b) : Bt b i := Nat.lt_of_lt_of_le h (Nat.pow_le_pow_right (by decide) hk)
theorem Bt.add (h : Bt k i) (h' : Bt k j) : Bt (k + 1) (i + j) := by
  unfold Bt at *
  rw [Nat.pow_succ]
  omega
theorem Bt.sub (h : Bt k i) (h' : Bt k j) : Bt (k + 1) (i - j) := by
  unfold Bt at *
  rw [Nat.pow_succ]
  omega
theorem Bt.mul (h : Bt a i) (h' : Bt b j) : Bt (a + b) (i * j) := by
  unfold Bt at *
  rw [Int.natAbs_mul, Nat.pow_add]
  exact Nat.mul_lt_mul'' h h'
theorem Bt.ok (h : Bt a i) (h' : Bt b j) (hab : a + b ≤ 100000000 := by decide) (ha : 0 < a := by decide) (hb : 0 < b := by decide) : mulOk i j = true := mulOk_b a b h h' hab ha hb
theorem Bt.of_bits (h : Builtin.Int.intBits i ≤ k) : Bt k i := by
  unfold Builtin.Int.intBits at h
  unfold Bt
  by_cases e : i = 0
  · subst e; simpa using Nat.pow_pos (n := k) (show 0 < 2 by decide)
  · rw [if_neg (by simpa using e)] at h
    exact Nat.lt_of_lt_of_le Nat.lt_log2_self (Nat.pow_le_pow_right (by decide) h)
theorem Bt.small (h1 : -18446744073709551616 < i) (h2 : i < 18446744073709551616) : Bt 64 i := by
  unfold Bt
  have : (2:Nat) ^ 64 = 18446744073709551616 := by decide
  omega
end
theorem Bt.sum {k : Nat} : ∀ {l : List Int}, (∀ z ∈ l, Bt k z) → l.sum.natAbs ≤ l.length * 2 ^ k
  | [], _ => by simp
  | z :: l, h => by
    have h1 := Bt.sum (l := l) fun y hy => h y (List.mem_cons_of_mem _ hy)
    have h2 : z.natAbs < 2 ^ k := h z List.mem_cons_self
    rw [List.sum_cons, List.length_cons, Nat.add_mul]
    omega
theorem Bt.sum' {k : Nat} {l : List Int} (h : ∀ z ∈ l, Bt k z) (hl : l.length ≤ 127) : Bt (k + 7) l.sum := by
  have h1 := Bt.sum h
  unfold Bt
  rw [Nat.pow_add]
  have h2 : l.length * 2 ^ k ≤ 127 * 2 ^ k := Nat.mul_le_mul_right _ hl
  have h3 : 0 < 2 ^ k := Nat.pow_pos (by decide)
  omega
/-! ### slices, items -/
theorem cut_map {α β : Type} (f : α → β) (xs : List α) (lo hi : Option Int) : cut (xs.map f) lo hi = (cut xs lo hi).map f := by
  unfold cut
  rw [List.length_map, List.map_take, List.map_drop]
theorem mem_cut {α : Type} {xs : List α} {lo hi : Option Int} {x : α} (h : x ∈ cut xs lo hi) : x ∈ xs := List.mem_of_mem_drop (List.mem_of_mem_take h)
theorem cut_len {α : Type} {xs : List α} {lo hi : Option Int} : (cut xs lo hi).length ≤ xs.length := by
  unfold cut
  rw [List.length_take, List.length_drop]
  omega
theorem cut_all {α : Type} {xs : List α} {k : Nat} (h : xs.length ≤ k) : cut xs none (some (k : Int)) = xs := by
  unfold cut
  rw [HT.sIx_none, HT.sIx_nat, List.drop_zero, Nat.min_eq_right h, Nat.sub_zero, List.take_length]
theorem cut_nat {α : Type} {xs : List α} {a b : Nat} : cut xs (some (a : Int)) (some (b : Int)) = (xs.drop (min a xs.length)).take (min b xs.length - min a xs.length) := by
  unfold cut
  rw [HT.sIx_nat, HT.sIx_nat]
theorem asL_scr {ns : List Int} : asL (.scr ns) = some (ns.map .int) := rfl
theorem asL_lst {xs : List Da} : asL (.lst xs) = some xs := rfl
def slN (l h : Option Int) (d : Da) : Rs Sl := match asL d with
  | some xs => .ok (.ow (cut xs l h))
  | none => .no
theorem eSl_e {f : Sem1} {lo hi : Rho → Rs (Option Int)} {ρ : Rho} : eSl f lo hi ρ = (dat (f ρ)).bind fun d => (lo ρ).bind fun l => (hi ρ).bind fun h => slN l h d := rfl
theorem slN_lst {l h : Option Int} {xs : List Da} : slN l h (.lst xs) = .ok (.ow (cut xs l h)) := rfl
theorem slN_scr {l h : Option Int} {ns : List Int} : slN l h (.scr ns) = .ok (.ow ((cut ns l h).map .int)) := by
  rw [← cut_map]; rfl
theorem kAdd_lst {xs ys : List Da} (h : xs.length + ys.length ≤ 1000000) : kAdd (.lst xs) (.lst ys) = some (.ow (xs ++ ys)) := by simp [kAdd, h]
theorem kSum_ints {ns : List Int} : kSum [.lst (ns.map .int)] = some (.sh (.int ns.sum)) := by
  unfold kSum ints1
  simp only [asL, Option.bind, asInts_ints, Option.map]
theorem kLen_lst {xs : List Da} : kLen [.lst xs] = some (.sh (.int xs.length)) := rfl
theorem kLen_scr {xs : List Int} : kLen [.scr xs] = some (.sh (.int xs.length)) := by
  show some (Sl.sh (Da.int ((xs.map Da.int).length : Int))) = _
  rw [List.length_map]
theorem atI_get' {α : Type} {xs : List α} {i : Int} (h0 : 0 ≤ i) (h1 : i < xs.length) : atI xs i = some (xs[i.toNat]'(by omega)) := by
  have e : i = ((i.toNat : Nat) : Int) := by omega
  conv => lhs; rw [e]
  exact atI_nat (List.getElem?_eq_getElem (by omega))
theorem kIx_lst {xs : List Da} {i : Int} (h0 : 0 ≤ i) (h1 : i < xs.length) : kIx (.lst xs) (.int i) = some (.sh (xs[i.toNat]'(by omega))) := by
  show (atI xs i).map Sl.sh = _
  rw [atI_get' h0 h1]; rfl
theorem kIx_ints {xs : List Int} {i : Int} (h0 : 0 ≤ i) (h1 : i < xs.length) : kIx (.lst (xs.map .int)) (.int i) = some (.sh (.int (xs[i.toNat]'(by omega)))) := by
  rw [kIx_lst h0 (by rw [List.length_map]; exact h1)]
  simp
theorem kIx_tup0 {x : Da} {xs : List Da} : kIx (.tup (x :: xs)) (.int 0) = some (.sh x) := by
  show (atI (x :: xs) 0).map Sl.sh = _
  rw [show (0 : Int) = ((0 : Nat) : Int) from rfl, atI_nat (v := x) rfl]; rfl
theorem kIx_tup1 {x y : Da} {xs : List Da} : kIx (.tup (x :: y :: xs)) (.int 1) = some (.sh y) := by
  show (atI (x :: y :: xs) 1).map Sl.sh = _
  rw [show (1 : Int) = ((1 : Nat) : Int) from rfl, atI_nat (v := y) rfl]; rfl
theorem kIx_tup2 {x y z : Da} {xs : List Da} : kIx (.tup (x :: y :: z :: xs)) (.int 2) = some (.sh z) := by
  show (atI (x :: y :: z :: xs) 2).map Sl.sh = _
  rw [show (2 : Int) = ((2 : Nat) : Int) from rfl, atI_nat (v := z) rfl]; rfl
theorem kMin_pair {a b : Int} : kMin [.tup [.int a, .int b]] = some (.sh (.int (min a b))) := rfl
theorem kMax_pair {a b : Int} : kMax [.tup [.int a, .int b]] = some (.sh (.int (max a b))) := rfl
theorem loop_pair {i j : Nat} {a : SemS} {ds : List Da} {x y : Da} {ρ : Rho} : loopF [i, j] unT a (.tup [x, y] :: ds) ρ = loopN [i, j] unT a ds (a ((ρ.set i (.sh x)).set j (.sh y))) := loop_cons (xs := [x, y]) rfl rfl
theorem kPow_e {i j : Int} (h : powOk i j = true) : kPow (.int i) (.int j) = some (.sh (.int (i ^ j.toNat))) := by simp [kPow, kI, h]
theorem pow9 : kPow (.int 10) (.int 9) = some (.sh (.int (10 ^ 9))) := kPow_e (by decide)
theorem pow40 : kPow (.int 10) (.int 40) = some (.sh (.int (10 ^ 40))) := kPow_e (by decide)
theorem pow18 : kPow (.int 10) (.int 18) = some (.sh (.int (10 ^ 18))) := kPow_e (by decide)
theorem pow25 : kPow (.int 10) (.int 25) = some (.sh (.int (10 ^ 25))) := kPow_e (by decide)
theorem pow30 : kPow (.int 10) (.int 30) = some (.sh (.int (10 ^ 30))) := kPow_e (by decide)
end G6

namespace G6
open PySem PySem.Spec PyProof.Rows L2
/-! ### squares of ints as data -/
def dD (xss : List (List Int)) : List (List Da) := xss.map fun xs => xs.map .int
def dM (xss : List (List Int)) : Da := .lst (xss.map fun xs => .lst (xs.map .int))
def tb (n m : Nat) (f : Nat → Nat → Int) : List (List Int) := (List.range n).map fun r => (List.range m).map fun c => f r c
theorem dD_view {xss : List (List Int)} : (Sl.ow2 (dD xss)).view = some (dM xss) := by
  show some (Da.lst ((dD xss).map .lst)) = _
  unfold dD dM
  rw [List.map_map]
  rfl
theorem lst_dD {xss : List (List Int)} : Da.lst ((dD xss).map .lst) = dM xss := by
  have := @dD_view xss
  exact Option.some.inj this
theorem dat_dD {xss : List (List Int)} : dat (.ok (.ow2 (dD xss))) = .ok (dM xss) := by
  rw [dat_ok, dD_view]
theorem dD_len {xss : List (List Int)} : (dD xss).length = xss.length := by unfold dD; rw [List.length_map]
theorem tb_len {n m : Nat} {f : Nat → Nat → Int} : (tb n m f).length = n := by unfold tb; rw [List.length_map, List.length_range]
theorem tb_row {n m : Nat} {f : Nat → Nat → Int} {r : Nat} (h : r < n) : (tb n m f)[r]? = some ((List.range m).map fun c => f r c) := by
  unfold tb
  rw [List.getElem?_map, List.getElem?_range h]
  rfl
theorem tb_congr {n m : Nat} {f g : Nat → Nat → Int} (h : ∀ r c, r < n → c < m → f r c = g r c) : tb n m f = tb n m g := by
  unfold tb
  refine List.map_congr_left fun r hr => List.map_congr_left fun c hc => h r c (List.mem_range.mp hr) (List.mem_range.mp hc)
/-! ### comprehensions -/
theorem mapO_some {α β : Type} {k : α → Option β} {h : α → β} : ∀ {ds : List α}, (∀ d ∈ ds, k d = some (h d)) → mapO k ds = some (ds.map h)
  | [], _ => rfl
  | d :: ds, e => by
    rw [mapO, e d List.mem_cons_self, mapO_some fun x hx => e x (List.mem_cons_of_mem _ hx)]
    rfl
section
variable {fI : Rho → Rs (List Da)} {is vs : List Nat} {un : Unp} {fe : Sem1} {ρ : Rho} {items : List Da}
theorem eLc_ok (h : Da → Da) (hi : fI ρ = .ok items) (hl : items.length ≤ 1000000) (he : ∀ d ∈ items, elD is un vs fe ρ d = some (h d)) : eLc fI is un vs fe ρ = .ok (.ow (items.map h)) := by
  unfold eLc
  rw [hi]
  dsimp only
  rw [if_pos hl, mapO_some he]
theorem eLc2_ok (h : Da → List Da) (hi : fI ρ = .ok items) (hl : items.length ≤ 1000000) (he : ∀ d ∈ items, elO is un vs fe ρ d = some (h d)) : eLc2 fI is un vs fe ρ = .ok (.ow2 (items.map h)) := by
  unfold eLc2
  rw [hi]
  dsimp only
  rw [if_pos hl, mapO_some he]
theorem elD_un1 {i : Nat} {d y : Da} (h : dat (fe ((wipeR ρ vs).set i (.sh d))) = .ok y) : elD [i] un1 vs fe ρ d = some y := by
  unfold elD un1
  dsimp only
  rw [if_pos (show [d].length = [i].length from rfl)]
  show (match dat (fe ((wipeR ρ vs).set i (.sh d))) with | .ok y => some y | _ => none) = _
  rw [h]
theorem elO_un1 {i : Nat} {d : Da} {y : List Da} (h : fe ((wipeR ρ vs).set i (.sh d)) = .ok (.ow y)) : elO [i] un1 vs fe ρ d = some y := by
  unfold elO un1
  dsimp only
  rw [if_pos (show [d].length = [i].length from rfl)]
  show (match fe ((wipeR ρ vs).set i (.sh d)) with | .ok (.ow y) => some y | _ => none) = _
  rw [h]
theorem elD_pair {i j : Nat} {d e y : Da} (h : dat (fe (((wipeR ρ vs).set i (.sh d)).set j (.sh e))) = .ok y) : elD [i, j] unT vs fe ρ (.tup [d, e]) = some y := by
  unfold elD unT
  dsimp only
  rw [if_pos (show [d, e].length = [i, j].length from rfl)]
  show (match dat (fe (((wipeR ρ vs).set i (.sh d)).set j (.sh e))) with | .ok y => some y | _ => none) = _
  rw [h]
theorem elO_pair {i j : Nat} {d e : Da} {y : List Da} (h : fe (((wipeR ρ vs).set i (.sh d)).set j (.sh e)) = .ok (.ow y)) : elO [i, j] unT vs fe ρ (.tup [d, e]) = some y := by
  unfold elO unT
  dsimp only
  rw [if_pos (show [d, e].length = [i, j].length from rfl)]
  show (match fe (((wipeR ρ vs).set i (.sh d)).set j (.sh e)) with | .ok (.ow y) => some y | _ => none) = _
  rw [h]
end
theorem rngD_0 (n : Nat) : rngD 0 n = (List.range n).map fun (k : Nat) => Da.int (k : Int) := by
  unfold rngD
  exact List.map_congr_left fun k _ => by rw [Int.zero_add]
theorem rngD_len (lo : Int) (n : Nat) : (rngD lo n).length = n := by unfold rngD; rw [List.length_map, List.length_range]
def rangeN (n : Int) : Rs (List Da) := if n ≤ 1000000 ∧ -1000000 ≤ n then .ok (rngD 0 n.toNat) else .no
def rN (ds : List Da) : Rs (List Da) := match ds with
  | [.int n] => rangeN n
  | _ => .no
theorem iR1_e {fs : Rho → Rs (List Da)} {ρ : Rho} : iR1 fs ρ = (fs ρ).bind rN := by
  unfold iR1
  cases fs ρ with
  | ok ds => match ds with
    | [] => rfl
    | [.int n] => rfl
    | [.non] => rfl
    | [.bl _] => rfl
    | [.str _] => rfl
    | [.lst _] => rfl
    | [.tup _] => rfl
    | [.emp] => rfl
    | [.even _] => rfl
    | [.unl _ _] => rfl
    | [.scr _] => rfl
    | [.kt _] => rfl
    | [.err] => rfl
    | _ :: _ :: _ => rfl
  | ex c => rfl
  | no => rfl
theorem rN_int {n : Int} : rN [.int n] = rangeN n := rfl
theorem rangeN_ok {n : Int} (h1 : n ≤ 1000000) (h2 : -1000000 ≤ n) : rangeN n = .ok (rngD 0 n.toNat) := if_pos ⟨h1, h2⟩
theorem rangeN_nat {n : Nat} (h1 : n ≤ 1000000) : rangeN (n : Int) = .ok ((List.range n).map fun (k : Nat) => Da.int (k : Int)) := by
  rw [rangeN_ok (by omega) (by omega), Int.toNat_natCast, rngD_0]
def rN2 (ds : List Da) : Rs (List Da) := match ds with
  | [.int a, .int b] => if -1000000 ≤ a ∧ a ≤ 1000000 ∧ b ≤ 1000000 ∧ -1000000 ≤ b then .ok (rngD a (b - a).toNat) else .no
  | _ => .no
theorem iR2_e {fs : Rho → Rs (List Da)} {ρ : Rho} {a b : Int} (h : fs ρ = .ok [.int a, .int b]) (h1 : -1000000 ≤ a) (h2 : a ≤ 1000000) (h3 : b ≤ 1000000) (h4 : -1000000 ≤ b) : iR2 fs ρ = .ok (rngD a (b - a).toNat) := by
  unfold iR2
  rw [h]
  exact if_pos ⟨h1, h2, h3, h4⟩
/-! ### loops, by the turn -/
theorem loopF_ix {is : List Nat} {un : Unp} {g : SemS} (I : Nat → Rho → Prop) : ∀ {ds : List Da} {b : Nat}, (∀ k d ρ, ds[k]? = some d → I (b + k) ρ → ∃ xs ρ', un d = some xs ∧ xs.length = is.length ∧ (g (setR ρ is xs) = .nx ρ' ∨ g (setR ρ is xs) = .ct ρ') ∧ I (b + k + 1) ρ') →
    ∀ {ρ}, I b ρ → ∃ ρ', loopF is un g ds ρ = .nx ρ' ∧ I (b + ds.length) ρ'
  | [], b, _, ρ, h => ⟨ρ, rfl, h⟩
  | d :: ds, b, hs, ρ, h => by
    obtain ⟨xs, ρ', h1, h2, h3, h4⟩ := hs 0 d ρ rfl h
    obtain ⟨ρ'', h5, h6⟩ := loopF_ix I (ds := ds) (b := b + 1) (fun k e ρ he hI => by
      have := hs (k + 1) e ρ (by simpa using he) (by rw [show b + (k + 1) = b + 1 + k by omega]; exact hI)
      rw [show b + (k + 1) + 1 = b + 1 + k + 1 by omega] at this
      exact this) h4
    refine ⟨ρ'', ?_, by rw [List.length_cons, show b + (ds.length + 1) = b + 1 + ds.length by omega]; exact h6⟩
    unfold loopF
    rw [h1]
    dsimp only
    rw [if_pos h2]
    rcases h3 with h3 | h3 <;> rw [h3] <;> exact h5
/-- a loop over range(n), a name in slot i -/
theorem loop_range {i n : Nat} {g : SemS} (I : Nat → Rho → Prop) (h : ∀ k ρ, k < n → I k ρ → ∃ ρ', g (ρ.set i (.sh (.int (k : Int)))) = .nx ρ' ∧ I (k + 1) ρ') {ρ : Rho} (h0 : I 0 ρ) :
    ∃ ρ', loopF [i] un1 g ((List.range n).map fun (k : Nat) => Da.int (k : Int)) ρ = .nx ρ' ∧ I n ρ' := by
  have := loopF_ix (is := [i]) (un := un1) (g := g) I (ds := (List.range n).map fun (k : Nat) => Da.int (k : Int)) (b := 0) (fun k d ρ hd hI => by
    have hk : k < n := by
      have := (List.getElem?_eq_some_iff.mp hd).1
      simpa using this
    rw [List.getElem?_map, List.getElem?_range hk] at hd
    cases hd
    rw [Nat.zero_add] at hI ⊢
    obtain ⟨ρ', e1, e2⟩ := h k ρ hk hI
    exact ⟨[.int (k : Int)], ρ', rfl, rfl, .inl e1, e2⟩) h0
  rw [Nat.zero_add, List.length_map, List.length_range] at this
  exact this
/-- .. with the lists told -/
theorem loop_rangeE {i n : Nat} {g : SemS} (s : Nat → Rho) (h : ∀ k, k < n → g ((s k).set i (.sh (.int (k : Int)))) = .nx (s (k + 1))) : loopF [i] un1 g ((List.range n).map fun (k : Nat) => Da.int (k : Int)) (s 0) = .nx (s n) := by
  obtain ⟨ρ', e1, e2⟩ := loop_range (i := i) (n := n) (g := g) (fun k ρ => ρ = s k) (fun k ρ hk e => ⟨s (k + 1), by rw [e]; exact h k hk, rfl⟩) (ρ := s 0) rfl
  rw [e1, e2]
/-- a loop over the items, a name in slot i -/
theorem loop_items {i : Nat} {g : SemS} {ds : List Da} (I : Nat → Rho → Prop) (h : ∀ k d ρ, ds[k]? = some d → I k ρ → ∃ ρ', g (ρ.set i (.sh d)) = .nx ρ' ∧ I (k + 1) ρ') {ρ : Rho} (h0 : I 0 ρ) :
    ∃ ρ', loopF [i] un1 g ds ρ = .nx ρ' ∧ I ds.length ρ' := by
  have := loopF_ix (is := [i]) (un := un1) (g := g) I (ds := ds) (b := 0) (fun k d ρ hd hI => by
    rw [Nat.zero_add] at hI ⊢
    obtain ⟨ρ', e1, e2⟩ := h k d ρ hd hI
    exact ⟨[d], ρ', rfl, rfl, .inl e1, e2⟩) h0
  rw [Nat.zero_add] at this
  exact this
/-! ### == of squares -/
theorem eqL_ints : ∀ {xs ys : List Int} {n : Nat}, eqL (eqF n) (xs.map Da.int) (ys.map Da.int) = decide (xs = ys)
  | [], [], _ => rfl
  | [], _ :: _, _ => rfl
  | _ :: _, [], _ => rfl
  | x :: xs, y :: ys, n => by
    rw [List.map_cons, List.map_cons, eqL, eqL_ints]
    have : eqF n (.int x) (.int y) = (x == y) := by cases n <;> rfl
    rw [this]
    by_cases h : x = y <;> by_cases h2 : xs = ys <;> simp [h, h2]
theorem eqL_rows : ∀ {xs ys : List (List Int)} {n : Nat}, eqL (eqF (n + 1)) (xs.map fun r => Da.lst (r.map .int)) (ys.map fun r => Da.lst (r.map .int)) = decide (xs = ys)
  | [], [], _ => rfl
  | [], _ :: _, _ => rfl
  | _ :: _, [], _ => rfl
  | x :: xs, y :: ys, n => by
    rw [List.map_cons, List.map_cons, eqL, eqL_rows]
    have : eqF (n + 1) (.lst (x.map .int)) (.lst (y.map .int)) = decide (x = y) := eqL_ints
    rw [this]
    by_cases h : x = y <;> by_cases h2 : xs = ys <;> simp [h, h2]
theorem fits_int {n : Nat} {i : Int} : fits n (.int i) = true := by cases n <;> rfl
theorem fits_ints {xs : List Int} {n : Nat} : fits (n + 1) (.lst (xs.map .int)) = true := by
  show (xs.map Da.int).all (fits n) = true
  rw [List.all_eq_true]
  intro d hd
  obtain ⟨i, _, rfl⟩ := List.mem_map.mp hd
  exact fits_int
theorem fits_dM {xss : List (List Int)} {n : Nat} : fits (n + 2) (dM xss) = true := by
  show (xss.map fun r => Da.lst (r.map .int)).all (fits (n + 1)) = true
  rw [List.all_eq_true]
  intro d hd
  obtain ⟨r, _, rfl⟩ := List.mem_map.mp hd
  exact fits_ints
theorem kEq_ints {xs ys : List Int} : kEq (.lst (xs.map .int)) (.lst (ys.map .int)) = some (.sh (.bl (decide (xs = ys)))) := by
  unfold kEq
  rw [show nrm (.lst (xs.map Da.int)) = .lst (xs.map .int) from rfl, show nrm (.lst (ys.map Da.int)) = .lst (ys.map .int) from rfl, fits_ints, fits_ints]
  simp only [Bool.and_self, if_true]
  rw [show eqF 8 (.lst (xs.map .int)) (.lst (ys.map .int)) = decide (xs = ys) from eqL_ints]
theorem kNe_ints {xs ys : List Int} : kNe (.lst (xs.map .int)) (.lst (ys.map .int)) = some (.sh (.bl (!decide (xs = ys)))) := by
  unfold kNe
  rw [show nrm (.lst (xs.map Da.int)) = .lst (xs.map .int) from rfl, show nrm (.lst (ys.map Da.int)) = .lst (ys.map .int) from rfl, fits_ints, fits_ints]
  simp only [Bool.and_self, if_true]
  rw [show eqF 8 (.lst (xs.map .int)) (.lst (ys.map .int)) = decide (xs = ys) from eqL_ints]
theorem kEq_dM {xs ys : List (List Int)} : kEq (dM xs) (dM ys) = some (.sh (.bl (decide (xs = ys)))) := by
  unfold kEq
  rw [show nrm (dM xs) = dM xs from rfl, show nrm (dM ys) = dM ys from rfl, fits_dM, fits_dM]
  simp only [Bool.and_self, if_true]
  rw [show eqF 8 (dM xs) (dM ys) = decide (xs = ys) from eqL_rows]
theorem kNe_dM {xs ys : List (List Int)} : kNe (dM xs) (dM ys) = some (.sh (.bl (!decide (xs = ys)))) := by
  unfold kNe
  rw [show nrm (dM xs) = dM xs from rfl, show nrm (dM ys) = dM ys from rfl, fits_dM, fits_dM]
  simp only [Bool.and_self, if_true]
  rw [show eqF 8 (dM xs) (dM ys) = decide (xs = ys) from eqL_rows]
theorem asL_dM {xss : List (List Int)} : asL (dM xss) = some (xss.map fun r => .lst (r.map .int)) := rfl
theorem kLen_dM {xss : List (List Int)} : kLen [dM xss] = some (.sh (.int xss.length)) := by
  show some (Sl.sh (Da.int ((xss.map fun r => Da.lst (r.map .int)).length : Int))) = _
  rw [List.length_map]
theorem kLen_ints {xs : List Int} : kLen [.lst (xs.map .int)] = some (.sh (.int xs.length)) := by rw [kLen_lst, List.length_map]
theorem kIx_dM {xss : List (List Int)} {k : Nat} {xs : List Int} (h : xss[k]? = some xs) : kIx (dM xss) (.int (k : Int)) = some (.sh (.lst (xs.map .int))) := by
  show (atI (xss.map fun r => Da.lst (r.map .int)) (k : Int)).map Sl.sh = _
  rw [atI_nat (v := .lst (xs.map .int)) (by rw [List.getElem?_map, h]; rfl)]
  rfl
theorem kIx_intN {xs : List Int} {k : Nat} {x : Int} (h : xs[k]? = some x) : kIx (.lst (xs.map .int)) (.int (k : Int)) = some (.sh (.int x)) := by
  show (atI (xs.map Da.int) (k : Int)).map Sl.sh = _
  rw [atI_nat (v := .int x) (by rw [List.getElem?_map, h]; rfl)]
  rfl
end G6
namespace G6
open PySem PySem.Spec PyProof.Rows L2
/-! ### squares and their lines -/
def Sq (xss : List (List Int)) (n : Nat) : Prop := xss.length = n ∧ ∀ r ∈ xss, r.length = n
def ent (xss : List (List Int)) (r c : Nat) : Int := (xss[r]?.getD [])[c]?.getD 0
inductive Ln where
  | row (k : Nat) | col (k : Nat) | down | up
def lnD : Ln → Da
  | .row k => .tup [.str "row", .int (k : Int)]
  | .col k => .tup [.str "column", .int (k : Int)]
  | .down => .tup [.str "down", .int 0]
  | .up => .tup [.str "up", .int 0]
def lns (n : Nat) : List Ln := (List.range n).map .row ++ (List.range n).map .col ++ [.down, .up]
theorem lns_len (n : Nat) : (lns n).length = 2 * n + 2 := by
  unfold lns
  simp only [List.length_append, List.length_map, List.length_range, List.length_cons, List.length_nil]
  omega
theorem row_mem {n a : Nat} (h : Ln.row a ∈ lns n) : a < n := by
  unfold lns at h
  simp only [List.mem_append, List.mem_map, List.mem_range, List.mem_cons, List.not_mem_nil, Ln.row.injEq, reduceCtorEq, or_false, and_false, exists_false, exists_eq_right] at h
  exact h
theorem col_mem {n a : Nat} (h : Ln.col a ∈ lns n) : a < n := by
  unfold lns at h
  simp only [List.mem_append, List.mem_map, List.mem_range, List.mem_cons, List.not_mem_nil, Ln.col.injEq, reduceCtorEq, or_false, false_or, and_false, exists_false, exists_eq_right] at h
  exact h
def lterm (xss : List (List Int)) (n : Nat) : Ln → Nat → Int
  | .row k, s => ent xss k s
  | .col k, s => ent xss s k
  | .down, s => ent xss s s
  | .up, s => ent xss (n - 1 - s) s
def psum (xss : List (List Int)) (n : Nat) (l : Ln) : Nat → Int
  | 0 => 0
  | k + 1 => psum xss n l k + lterm xss n l k
def lsum (xss : List (List Int)) (n : Nat) (l : Ln) : Int := psum xss n l n
theorem psum_succ {xss : List (List Int)} {n : Nat} {l : Ln} {k : Nat} : psum xss n l (k + 1) = psum xss n l k + lterm xss n l k := rfl
theorem psum_zero {xss : List (List Int)} {n : Nat} {l : Ln} : psum xss n l 0 = 0 := rfl
theorem Sq.ent {xss : List (List Int)} {n r c : Nat} (h : Sq xss n) (hr : r < n) (hc : c < n) : ∃ row, xss[r]? = some row ∧ row[c]? = some (G6.ent xss r c) := by
  have h1 : r < xss.length := by rw [h.1]; exact hr
  have h2 : c < (xss[r]).length := by rw [h.2 _ (List.getElem_mem h1)]; exact hc
  refine ⟨xss[r], List.getElem?_eq_getElem h1, ?_⟩
  unfold G6.ent
  rw [List.getElem?_eq_getElem h1, Option.getD_some, List.getElem?_eq_getElem h2]
  rfl
theorem tb_sq {n : Nat} {f : Nat → Nat → Int} : Sq (tb n n f) n := by
  refine ⟨tb_len, fun r hr => ?_⟩
  unfold tb at hr
  obtain ⟨k, _, rfl⟩ := List.mem_map.mp hr
  rw [List.length_map, List.length_range]
theorem tb_ent {n m r c : Nat} {f : Nat → Nat → Int} (hr : r < n) (hc : c < m) : ent (tb n m f) r c = f r c := by
  unfold ent
  rw [tb_row hr, Option.getD_some, List.getElem?_map, List.getElem?_range hc]
  rfl
theorem Sq.tb {xss : List (List Int)} {n : Nat} (h : Sq xss n) : xss = tb n n (G6.ent xss) := by
  refine List.ext_getElem? fun r => ?_
  by_cases hr : r < n
  · have h1 : r < xss.length := by rw [h.1]; exact hr
    rw [tb_row hr, List.getElem?_eq_getElem h1]
    congr 1
    refine List.ext_getElem? fun c => ?_
    by_cases hc : c < n
    · obtain ⟨row, e1, e2⟩ := h.ent hr hc
      rw [List.getElem?_eq_getElem h1] at e1
      cases e1
      rw [e2, List.getElem?_map, List.getElem?_range hc]
      rfl
    · rw [List.getElem?_eq_none (by rw [h.2 _ (List.getElem_mem h1)]; omega), List.getElem?_eq_none (by rw [List.length_map, List.length_range]; omega)]
  · rw [List.getElem?_eq_none (by rw [h.1]; omega), List.getElem?_eq_none (by rw [tb_len]; omega)]
theorem kEq_sb {i j : Str} {b : Bool} (h : (PyData.strOk i && (PyData.strOk j && ((i == j) == b))) = true) : kEq (.str i) (.str j) = some (.sh (.bl b)) := by
  rw [Bool.and_eq_true, Bool.and_eq_true] at h
  rw [kEq_str h.1 h.2.1, beq_iff_eq.mp h.2.2]
theorem s_rr : kEq (.str "row") (.str "row") = some (.sh (.bl true)) := kEq_sb (by decide +kernel)
theorem s_cr : kEq (.str "column") (.str "row") = some (.sh (.bl false)) := kEq_sb (by decide +kernel)
theorem s_cc : kEq (.str "column") (.str "column") = some (.sh (.bl true)) := kEq_sb (by decide +kernel)
theorem s_dr : kEq (.str "down") (.str "row") = some (.sh (.bl false)) := kEq_sb (by decide +kernel)
theorem s_dc : kEq (.str "down") (.str "column") = some (.sh (.bl false)) := kEq_sb (by decide +kernel)
theorem s_dd : kEq (.str "down") (.str "down") = some (.sh (.bl true)) := kEq_sb (by decide +kernel)
theorem s_ur : kEq (.str "up") (.str "row") = some (.sh (.bl false)) := kEq_sb (by decide +kernel)
theorem s_uc : kEq (.str "up") (.str "column") = some (.sh (.bl false)) := kEq_sb (by decide +kernel)
theorem s_ud : kEq (.str "up") (.str "down") = some (.sh (.bl false)) := kEq_sb (by decide +kernel)
theorem kIsi_lst {xs : List Da} : kIsi .list (.lst xs) = some (.sh (.bl true)) := rfl
theorem kIsi_dM {xs : List (List Int)} : kIsi .list (dM xs) = some (.sh (.bl true)) := rfl
theorem kEq_nil {xs : List (List Int)} : kEq (dM xs) (.lst []) = some (.sh (.bl (decide (xs = [])))) := kEq_dM (ys := [])
theorem asBls_true {α : Type} : ∀ l : List α, asBls (l.map fun _ => Da.bl true) = some (l.map fun _ => true)
  | [] => rfl
  | x :: l => by rw [List.map_cons, asBls, asBls_true l]; rfl
theorem kAll_true {α : Type} {l : List α} : kAll [.lst (l.map fun _ => .bl true)] = some (.sh (.bl true)) := by
  unfold kAll bls1
  simp only [asL, Option.bind, asBls_true, Option.map]
  have : (l.map fun _ => true).all id = true := by simp
  rw [this]
theorem kAll_bls {bs : List Bool} : kAll [.lst (bs.map .bl)] = some (.sh (.bl (bs.all id))) := by
  unfold kAll bls1
  simp only [asL, Option.bind, asBls_bls, Option.map]
theorem kAny_bls {bs : List Bool} : kAny [.lst (bs.map .bl)] = some (.sh (.bl (bs.any id))) := by
  unfold kAny bls1
  simp only [asL, Option.bind, asBls_bls, Option.map]
end G6

namespace G6
open PySem PySem.Spec PyProof.Rows L2
theorem ixN_nat {n k : Nat} (h : k < n) : ixN n (k : Int) = some k := by
  unfold ixN
  rw [if_pos (by omega), if_pos (by omega), Int.toNat_natCast]
def upd2 (f : Nat → Nat → Int) (r c : Nat) (v : Int) : Nat → Nat → Int := fun a b => if a = r ∧ b = c then v else f a b
theorem dD_tb {n m : Nat} {f : Nat → Nat → Int} : dD (tb n m f) = (List.range n).map fun r => (List.range m).map fun c => Da.int (f r c) := by
  unfold dD tb
  rw [List.map_map]
  refine List.map_congr_left fun r _ => ?_
  show ((List.range m).map fun c => f r c).map Da.int = _
  rw [List.map_map]
  rfl
theorem set_map_range {α : Type} {n r : Nat} {f : Nat → α} {v : α} : ((List.range n).map f).set r v = (List.range n).map fun a => if a = r then v else f a := by
  refine List.ext_getElem? fun a => ?_
  rw [List.getElem?_set, List.getElem?_map, List.getElem?_map, List.length_map, List.length_range]
  by_cases ha : a < n
  · rw [List.getElem?_range ha]
    by_cases e : r = a
    · subst e
      simp [ha]
    · rw [if_neg e]
      show some (f a) = some (if a = r then v else f a)
      rw [if_neg (Ne.symm e)]
  · rw [List.getElem?_eq_none (l := List.range n) (by rw [List.length_range]; omega)]
    by_cases e : r = a
    · subst e
      rw [if_pos rfl, if_neg ha]
      rfl
    · rw [if_neg e]
      rfl
theorem put2_tb {n r c : Nat} {f : Nat → Nat → Int} {v : Int} (hr : r < n) (hc : c < n) : put2 (dD (tb n n f)) (r : Int) (c : Int) (.int v) = some (dD (tb n n (upd2 f r c v))) := by
  unfold put2
  rw [dD_len, tb_len, ixN_nat hr]
  dsimp only
  rw [dD_tb, List.getElem?_map, List.getElem?_range hr]
  show (match ixN ((List.range n).map fun c => Da.int (f r c)).length (c : Int) with | none => none | some j2 => some (((List.range n).map fun r => (List.range n).map fun c => Da.int (f r c)).set r (((List.range n).map fun c => Da.int (f r c)).set j2 (.int v)))) = _
  rw [List.length_map, List.length_range, ixN_nat hc]
  dsimp only
  rw [set_map_range, set_map_range, dD_tb]
  congr 1
  refine List.map_congr_left fun a _ => ?_
  by_cases e : a = r
  · rw [if_pos e]
    refine List.map_congr_left fun b _ => ?_
    unfold upd2
    by_cases e2 : b = c
    · rw [if_pos e2, if_pos ⟨e, e2⟩]
    · rw [if_neg e2, if_neg fun z => e2 z.2, e]
  · rw [if_neg e]
    refine List.map_congr_left fun b _ => ?_
    unfold upd2
    rw [if_neg fun z => e z.1]
theorem sPutII_ok {i : Nat} {full : Bool} {f f1 f2 : Sem1} {ρ : Rho} {d : Da} {xss yss : List (List Da)} {k1 k2 : Int} (h : dat (stf full f ρ) = .ok d) (hi : ρ[i]? = some (.ow2 xss)) (h1 : dat (f1 ρ) = .ok (.int k1)) (h2 : dat (f2 ρ) = .ok (.int k2)) (hp : put2 xss k1 k2 d = some yss) :
    sPutII i full f f1 f2 ρ = .nx (ρ.set i (.ow2 yss)) := by
  unfold sPutII
  rw [h]
  dsimp only
  rw [hi, h1, h2]
  dsimp only
  rw [hp]
theorem sAlias_ok {i l : Nat} {f f1 f2 : Sem1} {ρ : Rho} {n : Int} {xss yss : List (List Da)} {k1 k2 : Int} (hi : ρ[i]? = some (.ow2 xss)) (h1 : dat (f1 ρ) = .ok (.int k1)) (h2 : dat (f2 (ρ.set l .dead)) = .ok (.int k2)) (h : dat (f (ρ.set l .dead)) = .ok (.int n))
    (hil : ¬ i = l) (hll : l < ρ.length) (hp : put2 xss k1 k2 (.int n) = some yss) : sAlias i l f1 f2 f ρ = .nx ((ρ.set i (.ow2 yss)).set l .dead) := by
  unfold sAlias
  rw [hi, h1, h2, h]
  dsimp only
  rw [if_neg (fun z => z.elim hil (fun w => w hll)), hp]
theorem sApp_ok {i : Nat} {full : Bool} {f : Sem1} {ρ : Rho} {d : Da} {xs : List Da} (hi : ρ[i]? = some (.ow xs)) (hz : xs.length ≤ 1000000) (h : dat (stf full f ρ) = .ok d) : sApp i full f ρ = .nx (ρ.set i (.ow (xs ++ [d]))) := by
  unfold sApp
  rw [hi]
  dsimp only
  rw [if_pos hz, h]
theorem sExt_ok {i : Nat} {full : Bool} {f : Sem1} {ρ : Rho} {xs ys : List Da} (hi : ρ[i]? = some (.ow xs)) (h : dat (stf full f ρ) = .ok (.lst ys)) (hz : xs.length + ys.length ≤ 1000000) : sExt i full f ρ = .nx (ρ.set i (.ow (xs ++ ys))) := by
  unfold sExt
  rw [hi]
  dsimp only
  rw [h]
  dsimp only
  rw [if_pos hz]
theorem sMove_ok {i j : Nat} {ρ : Rho} {s : Sl} {xs : List Da} {xss : List (List Da)} (hij : ¬ i = j) (hi : ρ[i]? = some s) (hs : as2 s = some xss) (hj : ρ[j]? = some (.ow xs)) (hz : xss.length ≤ 1000000) : sMove i j ρ = .nx ((ρ.set i (.ow2 (xss ++ [xs]))).set j .dead) := by
  unfold sMove
  rw [if_neg hij, hi, hj]
  dsimp only
  rw [hs]
  dsimp only
  rw [if_pos hz]
theorem rep_flat {α : Type} (x : α) : ∀ n : Nat, (List.replicate n [x]).flatten = List.replicate n x
  | 0 => rfl
  | n + 1 => by rw [List.replicate_succ, List.flatten_cons, rep_flat x n]; rfl
theorem kRep_ok {x : Da} {n : Nat} (h : n ≤ 1000) : kRep (.lst [x]) (.int (n : Int)) = some (.ow (List.replicate n x)) := by
  unfold kRep
  dsimp only
  rw [if_pos ⟨by omega, by omega, by simp⟩, Int.toNat_natCast, rep_flat]
theorem map_const_range {α : Type} (x : α) (n : Nat) : ((List.range n).map fun _ => x) = List.replicate n x := by
  rw [List.map_const', List.length_range]
theorem sep_bl {b : Bool} : sep (.sh (.bl b)) = true := rfl
theorem kSorted_ints {ns : List Int} : kSorted [.lst (ns.map .int)] = some (.ow ((isort ns).map .int)) := by
  unfold kSorted ints1
  simp only [asL, Option.bind, asInts_ints, Option.map]
theorem eListR_ok {fs : Rho → Rs (List Da)} {ρ : Rho} {a b : Int} (h : fs ρ = .ok [.int a, .int b]) (h1 : 0 ≤ a) (h2 : a ≤ 1000000) (h3 : -1000000 ≤ b) (h4 : b ≤ 1000000) : eListR fs ρ = .ok (.ow (rngD a (b - a).toNat)) := by
  unfold eListR
  rw [h]
  show (if 0 ≤ a ∧ a ≤ 1000000 ∧ -1000000 ≤ b ∧ b ≤ 1000000 then _ else _) = _
  rw [if_pos ⟨h1, h2, h3, h4⟩]
end G6
namespace G6
open PySem PySem.Spec PyProof.Rows L2
theorem kNe_dM_self {xs : List (List Int)} : kNe (dM xs) (dM xs) = some (.sh (.bl false)) := by rw [kNe_dM, decide_eq_true rfl]; rfl
theorem kEq_dM_self {xs : List (List Int)} : kEq (dM xs) (dM xs) = some (.sh (.bl true)) := by rw [kEq_dM, decide_eq_true rfl]
theorem kNe_ints_self {xs : List Int} : kNe (.lst (xs.map .int)) (.lst (xs.map .int)) = some (.sh (.bl false)) := by rw [kNe_ints, decide_eq_true rfl]; rfl
theorem kNotB_tt : kNotB (.bl true) (.bl true) = some (.sh (.bl false)) := rfl
theorem cut_1 {α : Type} {a : α} {l : List α} : cut (a :: l) (some 1) none = l := by
  unfold cut
  rw [show HT.sIx (a :: l).length 0 (some 1) = min 1 (a :: l).length from HT.sIx_nat (a :: l).length 0 1, HT.sIx_none]
  have : min 1 (a :: l).length = 1 := by rw [List.length_cons]; omega
  rw [this]
  show List.take ((a :: l).length - 1) l = l
  rw [List.length_cons, Nat.add_sub_cancel, List.take_length]
theorem sAppI_ok {i : Nat} {f1 f : Sem1} {ρ : Rho} {k1 n : Int} {xss yss : List (List Da)} (hi : ρ[i]? = some (.ow2 xss)) (h1 : dat (f1 ρ) = .ok (.int k1)) (h : dat (f ρ) = .ok (.int n)) (hp : app2 xss k1 (.int n) = some yss) : sAppI i f1 f ρ = .nx (ρ.set i (.ow2 yss)) := by
  unfold sAppI
  rw [hi, h1, h]
  dsimp only
  rw [hp]
theorem app2_0 {x : List Da} {xss : List (List Da)} {d : Da} (h : x.length ≤ 1000000) : app2 (x :: xss) 0 d = some ((x ++ [d]) :: xss) := by
  unfold app2
  rw [show ixN (x :: xss).length 0 = some 0 from ixN_nat (n := (x :: xss).length) (k := 0) (by simp)]
  dsimp only
  rw [List.getElem?_cons_zero]
  dsimp only
  rw [if_pos h]
  rfl
theorem sPop_ok {i : Nat} {ρ : Rho} {x : List Da} {xss : List (List Da)} (hi : ρ[i]? = some (.ow2 (x :: xss))) : sPop i ρ = .nx (ρ.set i (.ow2 (x :: xss).dropLast)) := by
  unfold sPop
  rw [hi]
theorem slN_dM1 {x : List Int} {xs : List (List Int)} : slN (some 1) none (dM (x :: xs)) = .ok (.ow (xs.map fun r => Da.lst (r.map .int))) := by
  show Rs.ok (Sl.ow (cut (Da.lst (x.map .int) :: xs.map fun r => Da.lst (r.map .int)) (some 1) none)) = _
  rw [cut_1]
theorem slN_1 {x : Da} {xs : List Da} : slN (some 1) none (.lst (x :: xs)) = .ok (.ow xs) := by
  rw [slN_lst, cut_1]
end G6
namespace G6
open PySem PySem.Spec PyProof.Rows L2
theorem sep_int {i : Int} : sep (.sh (.int i)) = true := rfl
theorem sPutI_ok {i : Nat} {full : Bool} {f f1 : Sem1} {ρ : Rho} {d : Da} {xs : List Da} {k : Int} {j : Nat} (h : dat (stf full f ρ) = .ok d) (hi : ρ[i]? = some (.ow xs)) (h1 : dat (f1 ρ) = .ok (.int k)) (hp : ixN xs.length k = some j) : sPutI i full f f1 ρ = .nx (ρ.set i (.ow (xs.set j d))) := by
  unfold sPutI
  rw [h]
  dsimp only
  rw [hi, h1]
  dsimp only
  rw [hp]
theorem ixN_int {n : Nat} {k : Int} (h0 : 0 ≤ k) (h1 : k < n) : ixN n k = some k.toNat := by
  unfold ixN
  rw [if_pos h0, if_pos h1]
theorem kNe_ints_nil {xs : List Int} : kNe (.lst (xs.map .int)) (.lst []) = some (.sh (.bl (!decide (xs = [])))) := kNe_ints (ys := [])
theorem kList_lst {xs : List Da} : kList [.lst xs] = some (.ow xs) := rfl
theorem kIx_tup3 {x y z w : Da} {xs : List Da} : kIx (.tup (x :: y :: z :: w :: xs)) (.int 3) = some (.sh w) := by
  show (atI (x :: y :: z :: w :: xs) 3).map Sl.sh = _
  rw [show (3 : Int) = ((3 : Nat) : Int) from rfl, atI_nat (v := w) rfl]; rfl
theorem dD_append {a b : List (List Int)} : dD (a ++ b) = dD a ++ dD b := by unfold dD; rw [List.map_append]
/-- small numbers -/
def Sm (xss : List (List Int)) : Prop := ∀ r ∈ xss, ∀ z ∈ r, -10 ^ 25 ≤ z ∧ z ≤ 10 ^ 25
theorem as2_ow2 {s : Sl} {xss : List (List Da)} (h : as2 s = some xss) (hn : xss ≠ []) : s = .ow2 xss := by
  unfold as2 at h
  split at h
  · cases h; exact absurd rfl hn
  · cases h; rfl
  · cases h
end G6

namespace G6
open PySem PySem.Spec PyProof.Rows L2
/-! ### squares by their places -/
def rowD (n : Nat) (g : Nat → Int) : Da := .lst ((List.range n).map fun c => Da.int (g c))
theorem rowD_eq {n : Nat} {g : Nat → Int} : Da.lst (((List.range n).map g).map .int) = rowD n g := by
  unfold rowD; rw [List.map_map]; rfl
theorem dM_tb {n m : Nat} {f : Nat → Nat → Int} : dM (tb n m f) = .lst ((List.range n).map fun r => rowD m (f r)) := by
  unfold dM tb
  rw [List.map_map]
  congr 1
  exact List.map_congr_left fun r _ => rowD_eq
theorem dD_tb' {n m : Nat} {f : Nat → Nat → Int} : dD (tb n m f) = (List.range n).map fun r => (List.range m).map fun c => Da.int (f r c) := dD_tb
theorem kIx_rowD {n k : Nat} {g : Nat → Int} (h : k < n) : kIx (rowD n g) (.int (k : Int)) = some (.sh (.int (g k))) := by
  rw [← rowD_eq]
  exact kIx_intN (by rw [List.getElem?_map, List.getElem?_range h]; rfl)
theorem asL_rowD {n : Nat} {g : Nat → Int} : asL (rowD n g) = some ((List.range n).map fun c => Da.int (g c)) := rfl
theorem asL_dMtb {n m : Nat} {f : Nat → Nat → Int} : asL (dM (tb n m f)) = some ((List.range n).map fun r => rowD m (f r)) := by rw [dM_tb]; rfl
theorem kLen_dMtb {n m : Nat} {f : Nat → Nat → Int} : kLen [dM (tb n m f)] = some (.sh (.int (n : Int))) := by rw [kLen_dM, tb_len]
theorem kList_rowD {n : Nat} {g : Nat → Int} : kList [rowD n g] = some (.ow ((List.range n).map fun c => Da.int (g c))) := rfl
theorem rev_map_range {α : Type} (n : Nat) (g : Nat → α) : ((List.range n).map g).reverse = (List.range n).map fun c => g (n - 1 - c) := by
  refine List.ext_getElem? fun k => ?_
  by_cases hk : k < n
  · rw [List.getElem?_reverse (by rw [List.length_map, List.length_range]; exact hk), List.getElem?_map, List.getElem?_map, List.length_map, List.length_range, List.getElem?_range hk, List.getElem?_range (by omega)]
    rfl
  · rw [List.getElem?_eq_none (by rw [List.length_reverse, List.length_map, List.length_range]; omega), List.getElem?_eq_none (by rw [List.length_map, List.length_range]; omega)]
theorem pairs_range {n : Nat} {g h : Nat → Da} : pairs ((List.range n).map g) ((List.range n).map h) = (List.range n).map fun k => Da.tup [g k, h k] := by
  unfold pairs
  rw [List.zipWith_map, List.zipWith_self]
theorem range_mul {α : Type} (m : Nat) (hm : 0 < m) (F : Nat → Nat → α) : ∀ n : Nat, ((List.range n).map fun i => (List.range m).map fun j => F i j).flatten = (List.range (n * m)).map fun R => F (R / m) (R % m)
  | 0 => by simp
  | n + 1 => by
    rw [List.range_succ, List.map_append, List.flatten_append, range_mul m hm F n, Nat.add_mul, Nat.one_mul, List.range_add, List.map_append]
    congr 1
    rw [List.map_cons, List.map_nil, List.flatten_singleton, List.map_map]
    refine List.map_congr_left fun j hj => ?_
    have hj := List.mem_range.mp hj
    show F n j = F ((n * m + j) / m) ((n * m + j) % m)
    rw [Nat.mul_comm n m, Nat.mul_add_div hm, Nat.div_eq_of_lt hj, Nat.add_zero, Nat.mul_add_mod, Nat.mod_eq_of_lt hj]
/-! ways -/
def walk1 (n : Nat) (p : Nat × Nat) : Nat × Nat := (n - 1 - p.2, p.1)
def walkK (n : Nat) : Nat → Nat × Nat → Nat × Nat
  | 0, p => p
  | k + 1, p => walkK n k (walk1 n p)
theorem walkK_out (n : Nat) : ∀ (k : Nat) (p : Nat × Nat), walkK n (k + 1) p = walk1 n (walkK n k p)
  | 0, _ => rfl
  | k + 1, p => by
    show walkK n (k + 1) (walk1 n p) = _
    rw [walkK_out n k (walk1 n p)]
    rfl
theorem walkK_lt {n : Nat} : ∀ (k : Nat) (p : Nat × Nat), p.1 < n → p.2 < n → (walkK n k p).1 < n ∧ (walkK n k p).2 < n
  | 0, _, h1, h2 => ⟨h1, h2⟩
  | k + 1, p, h1, h2 => walkK_lt k (walk1 n p) (by show n - 1 - p.2 < n; omega) h1
def wayT (f : Nat → Nat → Int) (w : Nat) : Nat → Nat → Int := if w > 3 then fun r c => f c r else f
def turnF (n : Nat) (f : Nat → Nat → Int) (w : Nat) : Nat → Nat → Int := fun r c => wayT f w (walkK n (w % 4) (r, c)).1 (walkK n (w % 4) (r, c)).2
def backW (w : Nat) : Nat := if 0 < w ∧ w < 4 then 4 - w else w
theorem turn_back {n : Nat} {f : Nat → Nat → Int} {w : Nat} (hw : w < 8) : tb n n (turnF n (turnF n f w) (backW w)) = tb n n f := by
  refine tb_congr fun r c hr hc => ?_
  have e1 : n - 1 - (n - 1 - r) = r := by omega
  have e2 : n - 1 - (n - 1 - c) = c := by omega
  have : w = 0 ∨ w = 1 ∨ w = 2 ∨ w = 3 ∨ w = 4 ∨ w = 5 ∨ w = 6 ∨ w = 7 := by omega
  rcases this with rfl | rfl | rfl | rfl | rfl | rfl | rfl | rfl
  · rfl
  · show f (n - 1 - (n - 1 - r)) (n - 1 - (n - 1 - c)) = f r c
    rw [e1, e2]
  · show f (n - 1 - (n - 1 - r)) (n - 1 - (n - 1 - c)) = f r c
    rw [e1, e2]
  · show f (n - 1 - (n - 1 - r)) (n - 1 - (n - 1 - c)) = f r c
    rw [e1, e2]
  · rfl
  · show f r (n - 1 - (n - 1 - c)) = f r c
    rw [e2]
  · show f (n - 1 - (n - 1 - r)) (n - 1 - (n - 1 - c)) = f r c
    rw [e1, e2]
  · show f (n - 1 - (n - 1 - r)) (n - 1 - (n - 1 - (n - 1 - (n - 1 - c)))) = f r c
    rw [e1, e2, e2]
end G6

namespace K05
open PySem PySem.Spec PyProof.Rows L2 G6
def g_is_number : SemS := sRet false (eAnd (eUn (kIsi .int) (eVar 0)) (eNot (eUn (kIsi .bool) (eVar 0))))
def f_is_number : List Da → Rs Sl := fDef 1 g_is_number
def g_lines : SemS := sSeq (sSet 1 false (eOp kAdd (eLc (iR1 (aCons (eVar 0) (aNil))) [2] un1 [2] (eTup (aCons (eC (.str "row")) (aCons (eVar 2) (aNil))))) (eLc (iR1 (aCons (eVar 0) (aNil))) [2] un1 [2] (eTup (aCons (eC (.str "column")) (aCons (eVar 2) (aNil)))))))
    (sRet false (eOp kAdd (eVar 1) (eLst (aCons (eTup (aCons (eC (.str "down")) (aCons (eC (.int 0)) (aNil)))) (aCons (eTup (aCons (eC (.str "up")) (aCons (eC (.int 0)) (aNil)))) (aNil))))))
def f_lines : List Da → Rs Sl := fDef 3 g_lines
def g_sum_along : SemS := sSeq (sTgt [2, 3] unT false (eVar 1))
    (sSeq (sSet 4 false (eOp kSub (eCall kLen (aCons (eVar 0) (aNil))) (eC (.int 1))))
    (sSeq (sIf (fB (eOp kEq (eVar 2) (eC (.str "row"))))
    (sRet false (eCall kSum (aCons (eOp kIx (eVar 0) (eVar 3)) (aNil)))) (sNil))
    (sSeq (sIf (fB (eOp kEq (eVar 2) (eC (.str "column"))))
    (sRet false (eCall kSum (aCons (eLc (iL asL (eVar 0)) [6] un1 [6] (eOp kIx (eVar 6) (eVar 3))) (aNil)))) (sNil))
    (sSeq (sIf (fB (eOp kEq (eVar 2) (eC (.str "down"))))
    (sRet false (eCall kSum (aCons (eLc (iR1 (aCons (eOp kAdd (eVar 4) (eC (.int 1))) (aNil))) [5] un1 [5] (eOp kIx (eOp kIx (eVar 0) (eVar 5)) (eVar 5))) (aNil)))) (sNil))
    (sRet false (eCall kSum (aCons (eLc (iR1 (aCons (eOp kAdd (eVar 4) (eC (.int 1))) (aNil))) [5] un1 [5] (eOp kIx (eOp kIx (eVar 0) (eOp kSub (eVar 4) (eVar 5))) (eVar 5))) (aNil))))))))
def f_sum_along : List Da → Rs Sl := fDef 7 g_sum_along
def g__law_lines : SemS := sSeq (sSet 1 false (eOp kAdd (eLc (iR1 (aCons (eVar 0) (aNil))) [2] un1 [2] (eTup (aCons (eC (.str "row")) (aCons (eVar 2) (aNil))))) (eLc (iR1 (aCons (eVar 0) (aNil))) [2] un1 [2] (eTup (aCons (eC (.str "column")) (aCons (eVar 2) (aNil)))))))
    (sRet false (eOp kAdd (eVar 1) (eLst (aCons (eTup (aCons (eC (.str "down")) (aCons (eC (.int 0)) (aNil)))) (aCons (eTup (aCons (eC (.str "up")) (aCons (eC (.int 0)) (aNil)))) (aNil))))))
def f__law_lines : List Da → Rs Sl := fDef 3 g__law_lines
def g__law_sum : SemS := sSeq (sTgt [2, 3] unT false (eVar 1))
    (sSeq (sSet 4 false (eC (.int 0)))
    (sSeq (sFor (iR1 (aCons (eCall kLen (aCons (eVar 0) (aNil))) (aNil))) [5] un1
    (sIf (fB (eOp kEq (eVar 2) (eC (.str "row"))))
    (sSet 4 false (eOp kAdd (eVar 4) (eOp kIx (eOp kIx (eVar 0) (eVar 3)) (eVar 5)))) (sIf (fB (eOp kEq (eVar 2) (eC (.str "column"))))
    (sSet 4 false (eOp kAdd (eVar 4) (eOp kIx (eOp kIx (eVar 0) (eVar 5)) (eVar 3)))) (sSet 4 false (eOp kAdd (eVar 4) (eOp kIx (eOp kIx (eVar 0) (eIf (fB (eOp kEq (eVar 2) (eC (.str "down")))) (eVar 5) (eOp kSub (eOp kSub (eCall kLen (aCons (eVar 0) (aNil))) (eC (.int 1))) (eVar 5)))) (eVar 5)))))))
    (sRet false (eVar 4))))
def f__law_sum : List Da → Rs Sl := fDef 6 g__law_sum
def g__law_draw : SemS := sSeq (sSet 3 false (eOp kAdd (eCall kSum (aCons (eVar 0) (aNil))) (eVar 2)))
    (sSeq (sSet 4 false (eOp kIx (eTup (aCons (eC (.int 2)) (aCons (eC (.int 3)) (aCons (eC (.int 30)) (aCons (eOp kPow (eC (.int 10)) (eC (.int 25))) (aNil)))))) (eOp kMod (eOp kDiv (eVar 3) (eC (.int 5))) (eC (.int 4)))))
    (sSeq (sOwn 5 false (eLst (aNil)))
    (sSeq (sOwn 6 false (eCall kList (aCons (eVar 0) (aNil))))
    (sSeq (sFor (iR1 (aCons (eVar 1) (aNil))) [7] un1
    (sSeq (sOwn 8 false (eLst (aNil)))
    (sSeq (sFor (iR1 (aCons (eVar 1) (aNil))) [9] un1
    (sSeq (sSet 10 false (eOp kAdd (eOp kMul (eVar 7) (eVar 1)) (eVar 9)))
    (sSeq (sSet 11 false (eOp kDiv (eOp kMul (eOp kMul (eVar 3) (eVar 10)) (eOp kAdd (eOp kAdd (eVar 10) (eVar 2)) (eC (.int 7)))) (eC (.int 3))))
    (sSeq (sIf (fB (eOp kNe (eVar 0) (eLst (aNil))))
    (sSeq (sSet 12 false (eOp kMod (eOp kAdd (eVar 10) (eVar 2)) (eCall kLen (aCons (eVar 0) (aNil)))))
    (sSeq (sSet 11 true (eOp kIx (eVar 6) (eVar 12)))
    (sSeq (sIf (fB (eOp kLt (eVar 11) (eOp kPow (eC (.int 10)) (eC (.int 18)))))
    (sSet 11 false (eOp kMul (eOp kMod (eOp kMul (eOp kAdd (eVar 11) (eOp kMul (eC (.int 977)) (eVar 10))) (eC (.int 48271))) (eC (.int 2147483647))) (eOp kAdd (eOp kAdd (eVar 11) (eVar 10)) (eVar 2)))) (sNil))
    (sPutI 6 true (eOp kDiv (eOp kIx (eVar 6) (eVar 12)) (eVar 4)) (eVar 12))))) (sNil))
    (sApp 8 false (eOp kSub (eOp kMod (eVar 11) (eVar 4)) (eOp kDiv (eVar 4) (eC (.int 3)))))))))
    (sMove 5 8))))
    (sRetVar 5)))))
def f__law_draw : List Da → Rs Sl := fDef 13 g__law_draw
def g__law_three : SemS := sSeq (sSet 3 false (eLst (aCons (eOp kAdd (eVar 0) (eVar 1)) (aCons (eOp kSub (eOp kSub (eVar 0) (eVar 1)) (eVar 2)) (aCons (eOp kAdd (eVar 0) (eVar 2)) (aNil))))))
    (sSeq (sSet 4 false (eLst (aCons (eOp kSub (eVar 0) (eVar 2)) (aCons (eOp kAdd (eOp kAdd (eVar 0) (eVar 1)) (eVar 2)) (aCons (eOp kSub (eVar 0) (eVar 1)) (aNil))))))
    (sRet false (eLst (aCons (eVar 3) (aCons (eLst (aCons (eOp kAdd (eOp kSub (eVar 0) (eVar 1)) (eVar 2)) (aCons (eVar 0) (aCons (eOp kSub (eOp kAdd (eVar 0) (eVar 1)) (eVar 2)) (aNil))))) (aCons (eVar 4) (aNil)))))))
def f__law_three : List Da → Rs Sl := fDef 5 g__law_three
def g_asked_square : SemS := sSeq (sIf (fOr (fNot (fB (eUn (kIsi .list) (eVar 0)))) (fB (eOp kEq (eVar 0) (eLst (aNil)))))
    (sRaise "BadSquare") (sNil))
    (sFor (iL asL (eVar 0)) [1] un1
    (sIf (fOr (fNot (fB (eUn (kIsi .list) (eVar 1)))) (fOr (fB (eOp kNe (eCall kLen (aCons (eVar 1) (aNil))) (eCall kLen (aCons (eVar 0) (aNil))))) (fNot (fB (eCall kAll (aCons (eLc (iL asL (eVar 1)) [2] un1 [2] (eFn f_is_number (aCons (eVar 2) (aNil)))) (aNil)))))))
    (sRaise "BadSquare") (sNil)))
def f_asked_square : List Da → Rs Sl := fDef 3 g_asked_square
def g_three : SemS := sSeq (sIf (fOr (fNot (fB (eFn f_is_number (aCons (eVar 0) (aNil))))) (fOr (fNot (fB (eFn f_is_number (aCons (eVar 1) (aNil))))) (fNot (fB (eFn f_is_number (aCons (eVar 2) (aNil)))))))
    (sRaise "BadNumber") (sNil))
    (sSeq (sOwn 3 false (eLst (aCons (eOp kAdd (eVar 0) (eVar 1)) (aCons (eOp kSub (eOp kSub (eVar 0) (eVar 1)) (eVar 2)) (aCons (eOp kAdd (eVar 0) (eVar 2)) (aNil))))))
    (sSeq (sOwn 4 false (eLst (aCons (eOp kAdd (eOp kSub (eVar 0) (eVar 1)) (eVar 2)) (aCons (eVar 0) (aCons (eOp kSub (eOp kAdd (eVar 0) (eVar 1)) (eVar 2)) (aNil))))))
    (sRet3 3 4 (eLst (aCons (eOp kSub (eVar 0) (eVar 2)) (aCons (eOp kAdd (eOp kAdd (eVar 0) (eVar 1)) (eVar 2)) (aCons (eOp kSub (eVar 0) (eVar 1)) (aNil))))))))
def f_three : List Da → Rs Sl := fDef 5 g_three
def g__law_sums : SemS := sRet false (eLc (iL asL (eFn f__law_lines (aCons (eCall kLen (aCons (eVar 0) (aNil))) (aNil)))) [1] un1 [1] (eFn f__law_sum (aCons (eVar 0) (aCons (eVar 1) (aNil)))))
def f__law_sums : List Da → Rs Sl := fDef 2 g__law_sums
def g_told : SemS := sSeq (sExpr (eFn f_asked_square (aCons (eVar 0) (aNil))))
    (sSeq (sSet 1 false (eTup (aCons (eC (.str "row")) (aCons (eC (.int 0)) (aNil)))))
    (sSeq (sSet 2 false (eFn f_sum_along (aCons (eVar 0) (aCons (eVar 1) (aNil)))))
    (sSeq (sFor (iL asL (eFn f_lines (aCons (eCall kLen (aCons (eVar 0) (aNil))) (aNil)))) [3] un1
    (sIf (fB (eOp kNe (eFn f_sum_along (aCons (eVar 0) (aCons (eVar 3) (aNil)))) (eVar 2)))
    (sRet false (eUnl (aCons (eVar 1) (aCons (eVar 3) (aNil))))) (sNil)))
    (sRet false (eEven (aCons (eVar 2) (aNil)))))))
def f_told : List Da → Rs Sl := fDef 4 g_told
def g_parts : SemS := sSeq (sExpr (eFn f_asked_square (aCons (eVar 0) (aNil))))
    (sSeq (sIf (fOr (fB (eOp kNe (eCall kLen (aCons (eVar 0) (aNil))) (eC (.int 3)))) (fNot (fB (eUn (kIsC true false) (eFn f_told (aCons (eVar 0) (aNil)))))))
    (sRaise "NotEven") (sNil))
    (sSeq (sSet 1 false (eOp kIx (eOp kIx (eVar 0) (eC (.int 1))) (eC (.int 1))))
    (sRet false (eTup (aCons (eVar 1) (aCons (eOp kSub (eOp kIx (eOp kIx (eVar 0) (eC (.int 0))) (eC (.int 0))) (eVar 1)) (aCons (eOp kSub (eOp kIx (eOp kIx (eVar 0) (eC (.int 0))) (eC (.int 2))) (eVar 1)) (aNil))))))))
def f_parts : List Da → Rs Sl := fDef 2 g_parts
def g__law_none : SemS := sSeq (sTry 1 ["BadOrder", "BadPlace", "BadNumber", "BadSquare", "NotEven", "TooGreat"] (sExpr (eFn f_parts (aCons (eVar 0) (aNil))))
    (fun c => sSeq (sSet 2 false (eLst (aCons (eUn (kIsE (c == "BadNumber")) (eVar 1)) (aCons (eUn (kIsE (c == "BadOrder")) (eVar 1)) (aCons (eUn (kIsE (c == "BadPlace")) (eVar 1)) (aNil))))))
    (sSeq (sSet 2 false (eOp kAdd (eVar 2) (eLst (aCons (eUn (kIsE (c == "BadSquare")) (eVar 1)) (aCons (eUn (kIsE (c == "TooGreat")) (eVar 1)) (aNil))))))
    (sRet false (eAnd (eUn (kIsE (c == "NotEven")) (eVar 1)) (eNot (eCall kAny (aCons (eVar 2) (aNil)))))))))
    (sRet false (eC (.bl false)))
def f__law_none : List Da → Rs Sl := fDef 3 g__law_none
def g_law : SemS := sSeq (sSet 1 false (eCall kSum (aCons (eSl (eVar 0) (oNone) (oSome (eC (.int 63)))) (aNil))))
    (sSeq (sSet 2 false (eFn f__law_draw (aCons (eSl (eVar 0) (oNone) (oSome (eC (.int 63)))) (aCons (eC (.int 3)) (aCons (eC (.int 0)) (aNil))))))
    (sSeq (sFor (iL asL (eOp kAdd (eVar 2) (eLst (aCons (eLst (aCons (eC (.int 0)) (aCons (eC (.int 0)) (aCons (eC (.int 0)) (aNil))))) (aCons (eLst (aCons (eC (.int 5)) (aCons (eC (.int 3)) (aCons (eC (.int 1)) (aNil))))) (aNil)))))) [3, 4, 5] asL
    (sSeq (sOwn 9 false (eFn f_three (aCons (eVar 3) (aCons (eVar 4) (aCons (eVar 5) (aNil))))))
    (sSeq (sSet 10 false (eFn f__law_three (aCons (eVar 3) (aCons (eVar 4) (aCons (eVar 5) (aNil))))))
    (sSeq (sIf (fOr (fNot (fB (eUn (kIsi .list) (eVar 9)))) (fOr (fB (eOp kNe (eVar 9) (eVar 10))) (fB (eOp kNe (eUn kLenSet (eFn f__law_sums (aCons (eVar 9) (aNil)))) (eC (.int 1))))))
    (sRet false (eC (.bl false))) (sNil))
    (sSeq (sIf (fOr (fB (eOp kNe (eFn f_parts (aCons (eVar 9) (aNil))) (eTup (aCons (eVar 3) (aCons (eVar 4) (aCons (eVar 5) (aNil))))))) (fNot (fB (eUn (kIsi .tuple) (eFn f_parts (aCons (eVar 9) (aNil)))))))
    (sRet false (eC (.bl false))) (sNil))
    (sSeq (sSet 11 false (eOp kMod (eOp kDiv (eVar 1) (eC (.int 3))) (eC (.int 3))))
    (sSeq (sPutII 9 true (eOp kAdd (eOp kAdd (eOp kIx (eOp kIx (eVar 9) (eOp kMod (eVar 1) (eC (.int 3)))) (eVar 11)) (eC (.int 1))) (eOp kMod (eVar 1) (eC (.int 5)))) (eOp kMod (eVar 1) (eC (.int 3))) (eVar 11))
    (sIf (fOr (fNot (fB (eFn f__law_none (aCons (eVar 9) (aNil))))) (fB (eOp kNe (eFn f_three (aCons (eVar 3) (aCons (eVar 4) (aCons (eVar 5) (aNil))))) (eVar 10))))
    (sRet false (eC (.bl false))) (sNil)))))))))
    (sSeq (sIf (fAnd (fB (eOp kGt (eUn kLenSet (eFn f__law_sums (aCons (eVar 2) (aNil)))) (eC (.int 1)))) (fNot (fB (eFn f__law_none (aCons (eVar 2) (aNil))))))
    (sRet false (eC (.bl false))) (sNil))
    (sSeq (sSet 6 false (eLc2 (iR1 (aCons (eC (.int 3)) (aNil))) [12] un1 [12] (eLc (iR1 (aCons (eC (.int 3)) (aNil))) [13] un1 [13] (eOp kIx (eOp kIx (eVar 2) (eC (.int 0))) (eOp kMod (eOp kAdd (eVar 13) (eVar 12)) (eC (.int 3)))))))
    (sSeq (sFor (iL asL (eLst (aCons (eVar 6) (aCons (eLc2 (iL asL (eVar 6)) [12] un1 [12] (eUn kRev (eVar 12))) (aCons (eUn kRev (eVar 6)) (aNil)))))) [7] un1
    (sIf (fAnd (fB (eOp kGt (eUn kLenSet (eFn f__law_sums (aCons (eVar 7) (aNil)))) (eC (.int 1)))) (fNot (fB (eFn f__law_none (aCons (eVar 7) (aNil))))))
    (sRet false (eC (.bl false))) (sNil)))
    (sSeq (sSet 8 false (eOp kAdd (eC (.int 1)) (eOp kMod (eVar 1) (eC (.int 7)))))
    (sSeq (sIf (fAnd (fB (eOp kNe (eVar 8) (eC (.int 3)))) (fNot (fB (eFn f__law_none (aCons (eLc2 (iR1 (aCons (eVar 8) (aNil))) [12] un1 [12] (eOp kRep (eLst (aCons (eC (.int 7)) (aNil))) (eVar 8))) (aNil))))))
    (sRet false (eC (.bl false))) (sNil))
    (sRet false (eOp kEq (eFn f_three (aCons (eC (.int 5)) (aCons (eC (.int 3)) (aCons (eC (.int 1)) (aNil))))) (eLst (aCons (eLst (aCons (eC (.int 8)) (aCons (eC (.int 1)) (aCons (eC (.int 6)) (aNil))))) (aCons (eLst (aCons (eC (.int 3)) (aCons (eC (.int 5)) (aCons (eC (.int 7)) (aNil))))) (aCons (eLst (aCons (eC (.int 4)) (aCons (eC (.int 9)) (aCons (eC (.int 2)) (aNil))))) (aNil))))))))))))))
def f_law : List Da → Rs Sl := fDef 14 g_law
end K05

namespace K05
open PySem PySem.Spec PyProof.Rows L2 G6
theorem ev_is_number {n : Int} : f_is_number [.int n] = .ok (.sh (.bl true)) := rfl
theorem ev_asked_square {xss : List (List Int)} {n : Nat} (h : Sq xss n) (h0 : 0 < n) (h1 : n ≤ 10000) : f_asked_square [dM xss] = .ok (.sh .non) := by
  have hne : ¬ xss = [] := fun z => by have := h.1; rw [z] at this; simp at this; omega
  have hloop : ∃ ρ', loopF [1] un1 (sIf (fOr (fNot (fB (eUn (kIsi .list) (eVar 1)))) (fOr (fB (eOp kNe (eCall kLen (aCons (eVar 1) (aNil))) (eCall kLen (aCons (eVar 0) (aNil))))) (fNot (fB (eCall kAll (aCons (eLc (iL asL (eVar 1)) [2] un1 [2] (eFn f_is_number (aCons (eVar 2) (aNil)))) (aNil)))))))
    (sRaise "BadSquare") (sNil)) (xss.map fun r => Da.lst (r.map .int)) [.sh (dM xss), .dead, .dead] = .nx ρ' ∧ ∃ x1, ρ' = [.sh (dM xss), x1, .dead] := by
    refine loop_items (fun _ ρ => ∃ x1, ρ = [.sh (dM xss), x1, .dead]) (fun k d ρ hd ⟨x1, hρ⟩ => ?_) ⟨.dead, rfl⟩
    rw [List.getElem?_map] at hd
    cases hr : xss[k]? with
    | none => rw [hr] at hd; cases hd
    | some r =>
      rw [hr] at hd
      cases hd
      have hrl := h.2 r (List.mem_of_getElem? hr)
      subst hρ
      refine ⟨[.sh (dM xss), .sh (.lst (r.map .int)), .dead], ?_, _, rfl⟩
      have hlc : eLc (iL asL (eVar 1)) [2] un1 [2] (eFn f_is_number (aCons (eVar 2) (aNil))) [.sh (dM xss), .sh (.lst (r.map .int)), .dead] = .ok (.ow ((r.map Da.int).map fun _ => .bl true)) := by
        refine eLc_ok _ (by simp only [iL_e, sSeq_e, then_nx, then_rt, then_ex, fin_ok, fin_ex, sSet_e, sOwn_e, sRet_e, sExpr_e, sRetVar_e, retN_sh, retN_ow, retN_ow2, sIf_e, selS_t, selS_f, selE_t, selE_f, stf_f, stf_t, bind_ok, bind_ex, dat_sh, dat_ow, dat_ow2, dat_ex, ofO_some, eVar_e, eOp_e, eUn_e, eIf_e, fB_e, dB_bl, fAnd_e, fOr_e, andT_t, andT_f, andT_x, orT_t, orT_f, orT_x, fNot_e, eAnd_e, eOr_e, andE_t, andE_f, orE_t, orE_f, eNot_e, dN_bl, eCh_e, chN_t, chN_f, eCh3_e, chN2_t, chN2_f, aCons_e, aNil_e, eLst_e, eTup_e, eCall_e, eFn_e, eC_e, sTgt_e, tgtN_some, sPar_e, parN_e, sRaise_e, sNil_e, eTab_e, tabN_e, eIndexT_e, idxN_e, endS_rt, endS_nx, endS_ex, view_sh, view_ow, view_ow2, shs_cons, shs_nil, shO_sh, shO_dead, shO_ow, shO_ow2, setR_c, setR_n, un1_e, unT_e, oNone_e, oSome_e, dI_int, fDef, List.map_cons, List.map_nil, List.append_nil, List.nil_append, List.cons_append, List.replicate_succ, List.replicate_zero, List.length_cons, List.length_nil, List.set_cons_zero, List.set_cons_succ, List.getElem?_cons_zero, List.getElem?_cons_succ, Nat.sub_zero, Nat.reduceSub, Nat.reduceAdd, Nat.reduceLeDiff, if_true, if_false, ite_true, ite_false, Bool.false_eq_true, decide_true, decide_false, Bool.not_true, Bool.not_false, kSub_int, kAdd_int, kLt_int, kLe_int, kGt_int, kGe_int, kEq_int, kNe_int, kMod_int, kEq_pair, kNe_pair, Bool.and_true, Bool.and_false, Bool.true_and, Bool.false_and, asL_lst]) (by rw [List.length_map]; omega) fun d hd => elD_un1 ?_
        obtain ⟨i, _, rfl⟩ := List.mem_map.mp hd
        simp only [wipeR, sSeq_e, then_nx, then_rt, then_ex, fin_ok, fin_ex, sSet_e, sOwn_e, sRet_e, sExpr_e, sRetVar_e, retN_sh, retN_ow, retN_ow2, sIf_e, selS_t, selS_f, selE_t, selE_f, stf_f, stf_t, bind_ok, bind_ex, dat_sh, dat_ow, dat_ow2, dat_ex, ofO_some, eVar_e, eOp_e, eUn_e, eIf_e, fB_e, dB_bl, fAnd_e, fOr_e, andT_t, andT_f, andT_x, orT_t, orT_f, orT_x, fNot_e, eAnd_e, eOr_e, andE_t, andE_f, orE_t, orE_f, eNot_e, dN_bl, eCh_e, chN_t, chN_f, eCh3_e, chN2_t, chN2_f, aCons_e, aNil_e, eLst_e, eTup_e, eCall_e, eFn_e, eC_e, sTgt_e, tgtN_some, sPar_e, parN_e, sRaise_e, sNil_e, eTab_e, tabN_e, eIndexT_e, idxN_e, endS_rt, endS_nx, endS_ex, view_sh, view_ow, view_ow2, shs_cons, shs_nil, shO_sh, shO_dead, shO_ow, shO_ow2, setR_c, setR_n, un1_e, unT_e, oNone_e, oSome_e, dI_int, fDef, List.map_cons, List.map_nil, List.append_nil, List.nil_append, List.cons_append, List.replicate_succ, List.replicate_zero, List.length_cons, List.length_nil, List.set_cons_zero, List.set_cons_succ, List.getElem?_cons_zero, List.getElem?_cons_succ, Nat.sub_zero, Nat.reduceSub, Nat.reduceAdd, Nat.reduceLeDiff, if_true, if_false, ite_true, ite_false, Bool.false_eq_true, decide_true, decide_false, Bool.not_true, Bool.not_false, kSub_int, kAdd_int, kLt_int, kLe_int, kGt_int, kGe_int, kEq_int, kNe_int, kMod_int, kEq_pair, kNe_pair, Bool.and_true, Bool.and_false, Bool.true_and, Bool.false_and, ev_is_number]
      simp only [sSeq_e, then_nx, then_rt, then_ex, fin_ok, fin_ex, sSet_e, sOwn_e, sRet_e, sExpr_e, sRetVar_e, retN_sh, retN_ow, retN_ow2, sIf_e, selS_t, selS_f, selE_t, selE_f, stf_f, stf_t, bind_ok, bind_ex, dat_sh, dat_ow, dat_ow2, dat_ex, ofO_some, eVar_e, eOp_e, eUn_e, eIf_e, fB_e, dB_bl, fAnd_e, fOr_e, andT_t, andT_f, andT_x, orT_t, orT_f, orT_x, fNot_e, eAnd_e, eOr_e, andE_t, andE_f, orE_t, orE_f, eNot_e, dN_bl, eCh_e, chN_t, chN_f, eCh3_e, chN2_t, chN2_f, aCons_e, aNil_e, eLst_e, eTup_e, eCall_e, eFn_e, eC_e, sTgt_e, tgtN_some, sPar_e, parN_e, sRaise_e, sNil_e, eTab_e, tabN_e, eIndexT_e, idxN_e, endS_rt, endS_nx, endS_ex, view_sh, view_ow, view_ow2, shs_cons, shs_nil, shO_sh, shO_dead, shO_ow, shO_ow2, setR_c, setR_n, un1_e, unT_e, oNone_e, oSome_e, dI_int, fDef, List.append_nil, List.nil_append, List.cons_append, List.replicate_succ, List.replicate_zero, List.length_cons, List.length_nil, List.set_cons_zero, List.set_cons_succ, List.getElem?_cons_zero, List.getElem?_cons_succ, Nat.sub_zero, Nat.reduceSub, Nat.reduceAdd, Nat.reduceLeDiff, if_true, if_false, ite_true, ite_false, Bool.false_eq_true, decide_true, decide_false, Bool.not_true, Bool.not_false, kSub_int, kAdd_int, kLt_int, kLe_int, kGt_int, kGe_int, kEq_int, kNe_int, kMod_int, kEq_pair, kNe_pair, Bool.and_true, Bool.and_false, Bool.true_and, Bool.false_and, kIsi_lst, kLen_ints, kLen_dM, hrl, h.1, beq_self_eq_true, hlc, kAll_true]
  obtain ⟨ρ', e1, x1, e2⟩ := hloop
  subst e2
  simp only [f_asked_square, g_asked_square, sSeq_e, then_nx, then_rt, then_ex, fin_ok, fin_ex, sSet_e, sOwn_e, sRet_e, sExpr_e, sRetVar_e, retN_sh, retN_ow, retN_ow2, sIf_e, selS_t, selS_f, selE_t, selE_f, stf_f, stf_t, bind_ok, bind_ex, dat_sh, dat_ow, dat_ow2, dat_ex, ofO_some, eVar_e, eOp_e, eUn_e, eIf_e, fB_e, dB_bl, fAnd_e, fOr_e, andT_t, andT_f, andT_x, orT_t, orT_f, orT_x, fNot_e, eAnd_e, eOr_e, andE_t, andE_f, orE_t, orE_f, eNot_e, dN_bl, eCh_e, chN_t, chN_f, eCh3_e, chN2_t, chN2_f, aCons_e, aNil_e, eLst_e, eTup_e, eCall_e, eFn_e, eC_e, sTgt_e, tgtN_some, sPar_e, parN_e, sRaise_e, sNil_e, eTab_e, tabN_e, eIndexT_e, idxN_e, endS_rt, endS_nx, endS_ex, view_sh, view_ow, view_ow2, shs_cons, shs_nil, shO_sh, shO_dead, shO_ow, shO_ow2, setR_c, setR_n, un1_e, unT_e, oNone_e, oSome_e, dI_int, fDef, List.map_cons, List.map_nil, List.append_nil, List.nil_append, List.cons_append, List.replicate_succ, List.replicate_zero, List.length_cons, List.length_nil, List.set_cons_zero, List.set_cons_succ, List.getElem?_cons_zero, List.getElem?_cons_succ, Nat.sub_zero, Nat.reduceSub, Nat.reduceAdd, Nat.reduceLeDiff, if_true, if_false, ite_true, ite_false, Bool.false_eq_true, decide_true, decide_false, Bool.not_true, Bool.not_false, kSub_int, kAdd_int, kLt_int, kLe_int, kGt_int, kGe_int, kEq_int, kNe_int, kMod_int, kEq_pair, kNe_pair, Bool.and_true, Bool.and_false, Bool.true_and, Bool.false_and, kIsi_dM, kEq_nil, decide_eq_false hne, sFor_e, iL_e, asL_dM, e1]
theorem ev_law_lines {n : Nat} (h : n ≤ 10000) : f__law_lines [.int (n : Int)] = .ok (.ow ((lns n).map lnD)) := by
  have l1 : ∀ (w : Str) (x1 : Sl), eLc (iR1 (aCons (eVar 0) (aNil))) [2] un1 [2] (eTup (aCons (eC (.str w)) (aCons (eVar 2) (aNil)))) [.sh (.int (n : Int)), x1, .dead] = .ok (.ow (((List.range n).map fun (k : Nat) => Da.int (k : Int)).map fun d => .tup [.str w, d])) := by
    intro w x1
    refine eLc_ok _ (by simp only [iR1_e, rN_int, rangeN_nat (show n ≤ 1000000 by omega), sSeq_e, then_nx, then_rt, then_ex, fin_ok, fin_ex, sSet_e, sOwn_e, sRet_e, sExpr_e, sRetVar_e, retN_sh, retN_ow, retN_ow2, sIf_e, selS_t, selS_f, selE_t, selE_f, stf_f, stf_t, bind_ok, bind_ex, dat_sh, dat_ow, dat_ow2, dat_ex, ofO_some, eVar_e, eOp_e, eUn_e, eIf_e, fB_e, dB_bl, fAnd_e, fOr_e, andT_t, andT_f, andT_x, orT_t, orT_f, orT_x, fNot_e, eAnd_e, eOr_e, andE_t, andE_f, orE_t, orE_f, eNot_e, dN_bl, eCh_e, chN_t, chN_f, eCh3_e, chN2_t, chN2_f, aCons_e, aNil_e, eLst_e, eTup_e, eCall_e, eFn_e, eC_e, sTgt_e, tgtN_some, sPar_e, parN_e, sRaise_e, sNil_e, eTab_e, tabN_e, eIndexT_e, idxN_e, endS_rt, endS_nx, endS_ex, view_sh, view_ow, view_ow2, shs_cons, shs_nil, shO_sh, shO_dead, shO_ow, shO_ow2, setR_c, setR_n, un1_e, unT_e, oNone_e, oSome_e, dI_int, fDef, List.append_nil, List.nil_append, List.cons_append, List.replicate_succ, List.replicate_zero, List.length_cons, List.length_nil, List.set_cons_zero, List.set_cons_succ, List.getElem?_cons_zero, List.getElem?_cons_succ, Nat.sub_zero, Nat.reduceSub, Nat.reduceAdd, Nat.reduceLeDiff, if_true, if_false, ite_true, ite_false, Bool.false_eq_true, decide_true, decide_false, Bool.not_true, Bool.not_false, kSub_int, kAdd_int, kLt_int, kLe_int, kGt_int, kGe_int, kEq_int, kNe_int, kMod_int, kEq_pair, kNe_pair, Bool.and_true, Bool.and_false, Bool.true_and, Bool.false_and]) (by simp; omega) fun d hd => elD_un1 ?_
    simp only [wipeR, sSeq_e, then_nx, then_rt, then_ex, fin_ok, fin_ex, sSet_e, sOwn_e, sRet_e, sExpr_e, sRetVar_e, retN_sh, retN_ow, retN_ow2, sIf_e, selS_t, selS_f, selE_t, selE_f, stf_f, stf_t, bind_ok, bind_ex, dat_sh, dat_ow, dat_ow2, dat_ex, ofO_some, eVar_e, eOp_e, eUn_e, eIf_e, fB_e, dB_bl, fAnd_e, fOr_e, andT_t, andT_f, andT_x, orT_t, orT_f, orT_x, fNot_e, eAnd_e, eOr_e, andE_t, andE_f, orE_t, orE_f, eNot_e, dN_bl, eCh_e, chN_t, chN_f, eCh3_e, chN2_t, chN2_f, aCons_e, aNil_e, eLst_e, eTup_e, eCall_e, eFn_e, eC_e, sTgt_e, tgtN_some, sPar_e, parN_e, sRaise_e, sNil_e, eTab_e, tabN_e, eIndexT_e, idxN_e, endS_rt, endS_nx, endS_ex, view_sh, view_ow, view_ow2, shs_cons, shs_nil, shO_sh, shO_dead, shO_ow, shO_ow2, setR_c, setR_n, un1_e, unT_e, oNone_e, oSome_e, dI_int, fDef, List.map_cons, List.map_nil, List.append_nil, List.nil_append, List.cons_append, List.replicate_succ, List.replicate_zero, List.length_cons, List.length_nil, List.set_cons_zero, List.set_cons_succ, List.getElem?_cons_zero, List.getElem?_cons_succ, Nat.sub_zero, Nat.reduceSub, Nat.reduceAdd, Nat.reduceLeDiff, if_true, if_false, ite_true, ite_false, Bool.false_eq_true, decide_true, decide_false, Bool.not_true, Bool.not_false, kSub_int, kAdd_int, kLt_int, kLe_int, kGt_int, kGe_int, kEq_int, kNe_int, kMod_int, kEq_pair, kNe_pair, Bool.and_true, Bool.and_false, Bool.true_and, Bool.false_and]
  have l2 : ((((List.range n).map fun (k : Nat) => Da.int (k : Int)).map fun d => Da.tup [.str "row", d]) ++ (((List.range n).map fun (k : Nat) => Da.int (k : Int)).map fun d => Da.tup [.str "column", d])) ++ [.tup [.str "down", .int 0], .tup [.str "up", .int 0]] = (lns n).map lnD := by
    unfold lns
    rw [List.map_append, List.map_append, List.map_map, List.map_map, List.map_map, List.map_map]
    rfl
  rw [← l2]
  simp (disch := (simp; omega)) only [f__law_lines, g__law_lines, fDef, endS_rt, List.map_cons, List.map_nil, List.length_cons, List.length_nil, Nat.reduceAdd, Nat.reduceSub, List.replicate_succ, List.replicate_zero, List.cons_append, List.nil_append, sSeq_e, sSet_e, sRet_e, stf_f, shs_cons, shs_nil, shO_sh, shO_dead, eOp_e, l1, dat_ow, dat_sh, bind_ok, kAdd_lst, ofO_some, fin_ok, then_nx, List.set_cons_zero, List.set_cons_succ, eVar_e, List.getElem?_cons_zero, List.getElem?_cons_succ, view_sh, eLst_e, eTup_e, aCons_e, aNil_e, eC_e, Nat.reduceLeDiff, if_true]
theorem ev_law_sum {xss : List (List Int)} {n : Nat} (h : Sq xss n) (h1 : n ≤ 10000) {l : Ln} (hl : l ∈ lns n) : f__law_sum [dM xss, lnD l] = .ok (.sh (.int (lsum xss n l))) := by
  have hloop : ∀ (w : Str) (k0 : Nat) , lnD l = .tup [.str w, .int (k0 : Int)] → ∃ ρ', loopF [5] un1 (sIf (fB (eOp kEq (eVar 2) (eC (.str "row"))))
    (sSet 4 false (eOp kAdd (eVar 4) (eOp kIx (eOp kIx (eVar 0) (eVar 3)) (eVar 5)))) (sIf (fB (eOp kEq (eVar 2) (eC (.str "column"))))
    (sSet 4 false (eOp kAdd (eVar 4) (eOp kIx (eOp kIx (eVar 0) (eVar 5)) (eVar 3)))) (sSet 4 false (eOp kAdd (eVar 4) (eOp kIx (eOp kIx (eVar 0) (eIf (fB (eOp kEq (eVar 2) (eC (.str "down")))) (eVar 5) (eOp kSub (eOp kSub (eCall kLen (aCons (eVar 0) (aNil))) (eC (.int 1))) (eVar 5)))) (eVar 5)))))) ((List.range n).map fun (k : Nat) => Da.int (k : Int))
      [.sh (dM xss), .sh (lnD l), .sh (.str w), .sh (.int (k0 : Int)), .sh (.int 0), .dead] = .nx ρ' ∧ ∃ x5, ρ' = [.sh (dM xss), .sh (lnD l), .sh (.str w), .sh (.int (k0 : Int)), .sh (.int (lsum xss n l)), x5] := by
    intro w k0 hw
    refine loop_range (fun k ρ => ∃ x5, ρ = [.sh (dM xss), .sh (lnD l), .sh (.str w), .sh (.int (k0 : Int)), .sh (.int (psum xss n l k)), x5]) (fun k ρ hk ⟨x5, hρ⟩ => ?_) ⟨.dead, rfl⟩
    subst hρ
    refine ⟨[.sh (dM xss), .sh (lnD l), .sh (.str w), .sh (.int (k0 : Int)), .sh (.int (psum xss n l (k + 1))), .sh (.int (k : Int))], ?_, _, rfl⟩
    rw [psum_succ]
    cases l with
    | row a =>
      simp only [lnD, Da.tup.injEq, List.cons.injEq, Da.str.injEq, Da.int.injEq, and_true] at hw
      obtain ⟨rfl, hk0⟩ := hw
      have ha : a < n := row_mem hl
      obtain rfl : a = k0 := by omega
      obtain ⟨row, e1, e2⟩ := h.ent ha hk
      simp only [sSeq_e, then_nx, then_rt, then_ex, fin_ok, fin_ex, sSet_e, sOwn_e, sRet_e, sExpr_e, sRetVar_e, retN_sh, retN_ow, retN_ow2, sIf_e, selS_t, selS_f, selE_t, selE_f, stf_f, stf_t, bind_ok, bind_ex, dat_sh, dat_ow, dat_ow2, dat_ex, ofO_some, eVar_e, eOp_e, eUn_e, eIf_e, fB_e, dB_bl, fAnd_e, fOr_e, andT_t, andT_f, andT_x, orT_t, orT_f, orT_x, fNot_e, eAnd_e, eOr_e, andE_t, andE_f, orE_t, orE_f, eNot_e, dN_bl, eCh_e, chN_t, chN_f, eCh3_e, chN2_t, chN2_f, aCons_e, aNil_e, eLst_e, eTup_e, eCall_e, eFn_e, eC_e, sTgt_e, tgtN_some, sPar_e, parN_e, sRaise_e, sNil_e, eTab_e, tabN_e, eIndexT_e, idxN_e, endS_rt, endS_nx, endS_ex, view_sh, view_ow, view_ow2, shs_cons, shs_nil, shO_sh, shO_dead, shO_ow, shO_ow2, setR_c, setR_n, un1_e, unT_e, oNone_e, oSome_e, dI_int, fDef, List.map_cons, List.map_nil, List.append_nil, List.nil_append, List.cons_append, List.replicate_succ, List.replicate_zero, List.length_cons, List.length_nil, List.set_cons_zero, List.set_cons_succ, List.getElem?_cons_zero, List.getElem?_cons_succ, Nat.sub_zero, Nat.reduceSub, Nat.reduceAdd, Nat.reduceLeDiff, if_true, if_false, ite_true, ite_false, Bool.false_eq_true, decide_true, decide_false, Bool.not_true, Bool.not_false, kSub_int, kAdd_int, kLt_int, kLe_int, kGt_int, kGe_int, kEq_int, kNe_int, kMod_int, kEq_pair, kNe_pair, Bool.and_true, Bool.and_false, Bool.true_and, Bool.false_and, s_rr, kIx_dM e1, kIx_intN e2, lterm]
    | col a =>
      simp only [lnD, Da.tup.injEq, List.cons.injEq, Da.str.injEq, Da.int.injEq, and_true] at hw
      obtain ⟨rfl, hk0⟩ := hw
      have ha : a < n := col_mem hl
      obtain rfl : a = k0 := by omega
      obtain ⟨row, e1, e2⟩ := h.ent hk ha
      simp only [sSeq_e, then_nx, then_rt, then_ex, fin_ok, fin_ex, sSet_e, sOwn_e, sRet_e, sExpr_e, sRetVar_e, retN_sh, retN_ow, retN_ow2, sIf_e, selS_t, selS_f, selE_t, selE_f, stf_f, stf_t, bind_ok, bind_ex, dat_sh, dat_ow, dat_ow2, dat_ex, ofO_some, eVar_e, eOp_e, eUn_e, eIf_e, fB_e, dB_bl, fAnd_e, fOr_e, andT_t, andT_f, andT_x, orT_t, orT_f, orT_x, fNot_e, eAnd_e, eOr_e, andE_t, andE_f, orE_t, orE_f, eNot_e, dN_bl, eCh_e, chN_t, chN_f, eCh3_e, chN2_t, chN2_f, aCons_e, aNil_e, eLst_e, eTup_e, eCall_e, eFn_e, eC_e, sTgt_e, tgtN_some, sPar_e, parN_e, sRaise_e, sNil_e, eTab_e, tabN_e, eIndexT_e, idxN_e, endS_rt, endS_nx, endS_ex, view_sh, view_ow, view_ow2, shs_cons, shs_nil, shO_sh, shO_dead, shO_ow, shO_ow2, setR_c, setR_n, un1_e, unT_e, oNone_e, oSome_e, dI_int, fDef, List.map_cons, List.map_nil, List.append_nil, List.nil_append, List.cons_append, List.replicate_succ, List.replicate_zero, List.length_cons, List.length_nil, List.set_cons_zero, List.set_cons_succ, List.getElem?_cons_zero, List.getElem?_cons_succ, Nat.sub_zero, Nat.reduceSub, Nat.reduceAdd, Nat.reduceLeDiff, if_true, if_false, ite_true, ite_false, Bool.false_eq_true, decide_true, decide_false, Bool.not_true, Bool.not_false, kSub_int, kAdd_int, kLt_int, kLe_int, kGt_int, kGe_int, kEq_int, kNe_int, kMod_int, kEq_pair, kNe_pair, Bool.and_true, Bool.and_false, Bool.true_and, Bool.false_and, s_cr, s_cc, kIx_dM e1, kIx_intN e2, lterm]
    | down =>
      simp only [lnD, Da.tup.injEq, List.cons.injEq, Da.str.injEq, Da.int.injEq, and_true] at hw
      obtain ⟨rfl, hk0⟩ := hw
      obtain ⟨row, e1, e2⟩ := h.ent hk hk
      simp only [sSeq_e, then_nx, then_rt, then_ex, fin_ok, fin_ex, sSet_e, sOwn_e, sRet_e, sExpr_e, sRetVar_e, retN_sh, retN_ow, retN_ow2, sIf_e, selS_t, selS_f, selE_t, selE_f, stf_f, stf_t, bind_ok, bind_ex, dat_sh, dat_ow, dat_ow2, dat_ex, ofO_some, eVar_e, eOp_e, eUn_e, eIf_e, fB_e, dB_bl, fAnd_e, fOr_e, andT_t, andT_f, andT_x, orT_t, orT_f, orT_x, fNot_e, eAnd_e, eOr_e, andE_t, andE_f, orE_t, orE_f, eNot_e, dN_bl, eCh_e, chN_t, chN_f, eCh3_e, chN2_t, chN2_f, aCons_e, aNil_e, eLst_e, eTup_e, eCall_e, eFn_e, eC_e, sTgt_e, tgtN_some, sPar_e, parN_e, sRaise_e, sNil_e, eTab_e, tabN_e, eIndexT_e, idxN_e, endS_rt, endS_nx, endS_ex, view_sh, view_ow, view_ow2, shs_cons, shs_nil, shO_sh, shO_dead, shO_ow, shO_ow2, setR_c, setR_n, un1_e, unT_e, oNone_e, oSome_e, dI_int, fDef, List.map_cons, List.map_nil, List.append_nil, List.nil_append, List.cons_append, List.replicate_succ, List.replicate_zero, List.length_cons, List.length_nil, List.set_cons_zero, List.set_cons_succ, List.getElem?_cons_zero, List.getElem?_cons_succ, Nat.sub_zero, Nat.reduceSub, Nat.reduceAdd, Nat.reduceLeDiff, if_true, if_false, ite_true, ite_false, Bool.false_eq_true, decide_true, decide_false, Bool.not_true, Bool.not_false, kSub_int, kAdd_int, kLt_int, kLe_int, kGt_int, kGe_int, kEq_int, kNe_int, kMod_int, kEq_pair, kNe_pair, Bool.and_true, Bool.and_false, Bool.true_and, Bool.false_and, s_dr, s_dc, s_dd, kIx_dM e1, kIx_intN e2, lterm]
    | up =>
      simp only [lnD, Da.tup.injEq, List.cons.injEq, Da.str.injEq, Da.int.injEq, and_true] at hw
      obtain ⟨rfl, hk0⟩ := hw
      have hk2 : n - 1 - k < n := by omega
      obtain ⟨row, e1, e2⟩ := h.ent hk2 hk
      have ei : (n : Int) - 1 - (k : Int) = ((n - 1 - k : Nat) : Int) := by omega
      simp only [sSeq_e, then_nx, then_rt, then_ex, fin_ok, fin_ex, sSet_e, sOwn_e, sRet_e, sExpr_e, sRetVar_e, retN_sh, retN_ow, retN_ow2, sIf_e, selS_t, selS_f, selE_t, selE_f, stf_f, stf_t, bind_ok, bind_ex, dat_sh, dat_ow, dat_ow2, dat_ex, ofO_some, eVar_e, eOp_e, eUn_e, eIf_e, fB_e, dB_bl, fAnd_e, fOr_e, andT_t, andT_f, andT_x, orT_t, orT_f, orT_x, fNot_e, eAnd_e, eOr_e, andE_t, andE_f, orE_t, orE_f, eNot_e, dN_bl, eCh_e, chN_t, chN_f, eCh3_e, chN2_t, chN2_f, aCons_e, aNil_e, eLst_e, eTup_e, eCall_e, eFn_e, eC_e, sTgt_e, tgtN_some, sPar_e, parN_e, sRaise_e, sNil_e, eTab_e, tabN_e, eIndexT_e, idxN_e, endS_rt, endS_nx, endS_ex, view_sh, view_ow, view_ow2, shs_cons, shs_nil, shO_sh, shO_dead, shO_ow, shO_ow2, setR_c, setR_n, un1_e, unT_e, oNone_e, oSome_e, dI_int, fDef, List.map_cons, List.map_nil, List.append_nil, List.nil_append, List.cons_append, List.replicate_succ, List.replicate_zero, List.length_cons, List.length_nil, List.set_cons_zero, List.set_cons_succ, List.getElem?_cons_zero, List.getElem?_cons_succ, Nat.sub_zero, Nat.reduceSub, Nat.reduceAdd, Nat.reduceLeDiff, if_true, if_false, ite_true, ite_false, Bool.false_eq_true, decide_true, decide_false, Bool.not_true, Bool.not_false, kSub_int, kAdd_int, kLt_int, kLe_int, kGt_int, kGe_int, kEq_int, kNe_int, kMod_int, kEq_pair, kNe_pair, Bool.and_true, Bool.and_false, Bool.true_and, Bool.false_and, s_ur, s_uc, s_ud, kLen_dM, h.1, ei, kIx_dM e1, kIx_intN e2, lterm]
  obtain ⟨w, k0, hw⟩ : ∃ (w : Str) (k0 : Nat), lnD l = .tup [.str w, .int (k0 : Int)] := by
    cases l with
    | row a => exact ⟨_, a, rfl⟩
    | col a => exact ⟨_, a, rfl⟩
    | down => exact ⟨_, 0, rfl⟩
    | up => exact ⟨_, 0, rfl⟩
  obtain ⟨ρ', e1, x5, e2⟩ := hloop w k0 hw
  subst e2
  rw [hw] at e1 ⊢
  simp only [f__law_sum, g__law_sum, sSeq_e, then_nx, then_rt, then_ex, fin_ok, fin_ex, sSet_e, sOwn_e, sRet_e, sExpr_e, sRetVar_e, retN_sh, retN_ow, retN_ow2, sIf_e, selS_t, selS_f, selE_t, selE_f, stf_f, stf_t, bind_ok, bind_ex, dat_sh, dat_ow, dat_ow2, dat_ex, ofO_some, eVar_e, eOp_e, eUn_e, eIf_e, fB_e, dB_bl, fAnd_e, fOr_e, andT_t, andT_f, andT_x, orT_t, orT_f, orT_x, fNot_e, eAnd_e, eOr_e, andE_t, andE_f, orE_t, orE_f, eNot_e, dN_bl, eCh_e, chN_t, chN_f, eCh3_e, chN2_t, chN2_f, aCons_e, aNil_e, eLst_e, eTup_e, eCall_e, eFn_e, eC_e, sTgt_e, tgtN_some, sPar_e, parN_e, sRaise_e, sNil_e, eTab_e, tabN_e, eIndexT_e, idxN_e, endS_rt, endS_nx, endS_ex, view_sh, view_ow, view_ow2, shs_cons, shs_nil, shO_sh, shO_dead, shO_ow, shO_ow2, setR_c, setR_n, un1_e, unT_e, oNone_e, oSome_e, dI_int, fDef, List.append_nil, List.nil_append, List.cons_append, List.replicate_succ, List.replicate_zero, List.length_cons, List.length_nil, List.set_cons_zero, List.set_cons_succ, List.getElem?_cons_zero, List.getElem?_cons_succ, Nat.sub_zero, Nat.reduceSub, Nat.reduceAdd, Nat.reduceLeDiff, if_true, if_false, ite_true, ite_false, Bool.false_eq_true, decide_true, decide_false, Bool.not_true, Bool.not_false, kSub_int, kAdd_int, kLt_int, kLe_int, kGt_int, kGe_int, kEq_int, kNe_int, kMod_int, kEq_pair, kNe_pair, Bool.and_true, Bool.and_false, Bool.true_and, Bool.false_and, unT_e, List.map_cons, List.map_nil, sFor_e, iR1_e, rN_int, kLen_dM, h.1, rangeN_nat (show n ≤ 1000000 by omega), e1]
theorem ev_law_sums {xss : List (List Int)} {n : Nat} (h : Sq xss n) (h1 : n ≤ 10000) : f__law_sums [dM xss] = .ok (.ow (((lns n).map fun l => lsum xss n l).map .int)) := by
  have hlc : eLc (iL asL (eFn f__law_lines (aCons (eCall kLen (aCons (eVar 0) (aNil))) (aNil)))) [1] un1 [1] (eFn f__law_sum (aCons (eVar 0) (aCons (eVar 1) (aNil)))) [.sh (dM xss), .dead] = .ok (.ow (((lns n).map lnD).map fun d => match f__law_sum [dM xss, d] with | .ok (.sh y) => y | _ => .non)) := by
    refine eLc_ok _ (by simp only [iL_e, sSeq_e, then_nx, then_rt, then_ex, fin_ok, fin_ex, sSet_e, sOwn_e, sRet_e, sExpr_e, sRetVar_e, retN_sh, retN_ow, retN_ow2, sIf_e, selS_t, selS_f, selE_t, selE_f, stf_f, stf_t, bind_ok, bind_ex, dat_sh, dat_ow, dat_ow2, dat_ex, ofO_some, eVar_e, eOp_e, eUn_e, eIf_e, fB_e, dB_bl, fAnd_e, fOr_e, andT_t, andT_f, andT_x, orT_t, orT_f, orT_x, fNot_e, eAnd_e, eOr_e, andE_t, andE_f, orE_t, orE_f, eNot_e, dN_bl, eCh_e, chN_t, chN_f, eCh3_e, chN2_t, chN2_f, aCons_e, aNil_e, eLst_e, eTup_e, eCall_e, eFn_e, eC_e, sTgt_e, tgtN_some, sPar_e, parN_e, sRaise_e, sNil_e, eTab_e, tabN_e, eIndexT_e, idxN_e, endS_rt, endS_nx, endS_ex, view_sh, view_ow, view_ow2, shs_cons, shs_nil, shO_sh, shO_dead, shO_ow, shO_ow2, setR_c, setR_n, un1_e, unT_e, oNone_e, oSome_e, dI_int, fDef, List.append_nil, List.nil_append, List.cons_append, List.replicate_succ, List.replicate_zero, List.length_cons, List.length_nil, List.set_cons_zero, List.set_cons_succ, List.getElem?_cons_zero, List.getElem?_cons_succ, Nat.sub_zero, Nat.reduceSub, Nat.reduceAdd, Nat.reduceLeDiff, if_true, if_false, ite_true, ite_false, Bool.false_eq_true, decide_true, decide_false, Bool.not_true, Bool.not_false, kSub_int, kAdd_int, kLt_int, kLe_int, kGt_int, kGe_int, kEq_int, kNe_int, kMod_int, kEq_pair, kNe_pair, Bool.and_true, Bool.and_false, Bool.true_and, Bool.false_and, kLen_dM, h.1, ev_law_lines h1, asL_lst]) (by rw [List.length_map, lns_len]; omega) fun d hd => elD_un1 ?_
    obtain ⟨l, hl, rfl⟩ := List.mem_map.mp hd
    simp only [wipeR, sSeq_e, then_nx, then_rt, then_ex, fin_ok, fin_ex, sSet_e, sOwn_e, sRet_e, sExpr_e, sRetVar_e, retN_sh, retN_ow, retN_ow2, sIf_e, selS_t, selS_f, selE_t, selE_f, stf_f, stf_t, bind_ok, bind_ex, dat_sh, dat_ow, dat_ow2, dat_ex, ofO_some, eVar_e, eOp_e, eUn_e, eIf_e, fB_e, dB_bl, fAnd_e, fOr_e, andT_t, andT_f, andT_x, orT_t, orT_f, orT_x, fNot_e, eAnd_e, eOr_e, andE_t, andE_f, orE_t, orE_f, eNot_e, dN_bl, eCh_e, chN_t, chN_f, eCh3_e, chN2_t, chN2_f, aCons_e, aNil_e, eLst_e, eTup_e, eCall_e, eFn_e, eC_e, sTgt_e, tgtN_some, sPar_e, parN_e, sRaise_e, sNil_e, eTab_e, tabN_e, eIndexT_e, idxN_e, endS_rt, endS_nx, endS_ex, view_sh, view_ow, view_ow2, shs_cons, shs_nil, shO_sh, shO_dead, shO_ow, shO_ow2, setR_c, setR_n, un1_e, unT_e, oNone_e, oSome_e, dI_int, fDef, List.map_cons, List.map_nil, List.append_nil, List.nil_append, List.cons_append, List.replicate_succ, List.replicate_zero, List.length_cons, List.length_nil, List.set_cons_zero, List.set_cons_succ, List.getElem?_cons_zero, List.getElem?_cons_succ, Nat.sub_zero, Nat.reduceSub, Nat.reduceAdd, Nat.reduceLeDiff, if_true, if_false, ite_true, ite_false, Bool.false_eq_true, decide_true, decide_false, Bool.not_true, Bool.not_false, kSub_int, kAdd_int, kLt_int, kLe_int, kGt_int, kGe_int, kEq_int, kNe_int, kMod_int, kEq_pair, kNe_pair, Bool.and_true, Bool.and_false, Bool.true_and, Bool.false_and, ev_law_sum h h1 hl]
  have e : (((lns n).map lnD).map fun d => match f__law_sum [dM xss, d] with | .ok (.sh y) => y | _ => .non) = ((lns n).map fun l => lsum xss n l).map .int := by
    rw [List.map_map, List.map_map]
    refine List.map_congr_left fun l hl => ?_
    show (match f__law_sum [dM xss, lnD l] with | .ok (.sh y) => y | _ => .non) = _
    rw [ev_law_sum h h1 hl]
    rfl
  rw [e] at hlc
  simp only [f__law_sums, g__law_sums, fDef, List.map_cons, List.map_nil, List.length_cons, List.length_nil, Nat.reduceAdd, Nat.reduceSub, List.replicate_succ, List.replicate_zero, List.cons_append, List.nil_append, sRet_e, stf_f, shs_cons, shs_nil, shO_sh, shO_dead, hlc, fin_ok, endS_rt]

def drE (ns : List Int) (n : Nat) (b mx m : Int) (s5 : Sl) (ls : List Int) (x7 x8 x9 x10 x11 x12 : Sl) : Rho := [.sh (.lst (ns.map .int)), .sh (.int (n : Int)), .sh (.int b), .sh (.int mx), .sh (.int m), s5, .ow (ls.map .int), x7, x8, x9, x10, x11, x12]
def drIn : SemS := (sSeq (sSet 10 false (eOp kAdd (eOp kMul (eVar 7) (eVar 1)) (eVar 9)))
    (sSeq (sSet 11 false (eOp kDiv (eOp kMul (eOp kMul (eVar 3) (eVar 10)) (eOp kAdd (eOp kAdd (eVar 10) (eVar 2)) (eC (.int 7)))) (eC (.int 3))))
    (sSeq (sIf (fB (eOp kNe (eVar 0) (eLst (aNil))))
    (sSeq (sSet 12 false (eOp kMod (eOp kAdd (eVar 10) (eVar 2)) (eCall kLen (aCons (eVar 0) (aNil)))))
    (sSeq (sSet 11 true (eOp kIx (eVar 6) (eVar 12)))
    (sSeq (sIf (fB (eOp kLt (eVar 11) (eOp kPow (eC (.int 10)) (eC (.int 18)))))
    (sSet 11 false (eOp kMul (eOp kMod (eOp kMul (eOp kAdd (eVar 11) (eOp kMul (eC (.int 977)) (eVar 10))) (eC (.int 48271))) (eC (.int 2147483647))) (eOp kAdd (eOp kAdd (eVar 11) (eVar 10)) (eVar 2)))) (sNil))
    (sPutI 6 true (eOp kDiv (eOp kIx (eVar 6) (eVar 12)) (eVar 4)) (eVar 12))))) (sNil))
    (sApp 8 false (eOp kSub (eOp kMod (eVar 11) (eVar 4)) (eOp kDiv (eVar 4) (eC (.int 3))))))))
theorem ev_drIn {ns : List Int} {n r c : Nat} {b mx m : Int} (hn : n ≤ 1000) (hr : r < n) (hc : c < n) (b0 : 0 ≤ b) (b9 : b ≤ 9) (m0 : 0 < m) (m1 : m ≤ 10 ^ 25) {ls row : List Int} (hls : ls.length = ns.length) (hrow : row.length ≤ 1000) (s5 x10 x11 x12 : Sl) :
    ∃ (v : Int) (ls' : List Int) (y10 y11 y12 : Sl), (-10 ^ 25 ≤ v ∧ v ≤ 10 ^ 25) ∧ ls'.length = ns.length ∧ drIn (drE ns n b mx m s5 ls (.sh (.int (r : Int))) (.ow (row.map .int)) (.sh (.int (c : Int))) x10 x11 x12) = .nx (drE ns n b mx m s5 ls' (.sh (.int (r : Int))) (.ow ((row ++ [v]).map .int)) (.sh (.int (c : Int))) y10 y11 y12) := by
  have hrn : (r : Int) * n ≤ 1000 * 1000 := Int.mul_le_mul (by omega) (by omega) (by omega) (by omega)
  have hrn0 : (0 : Int) ≤ (r : Int) * n := Int.mul_nonneg (by omega) (by omega)
  have m1' : mulOk (r : Int) (n : Int) = true := mulOk_l (by omega) (by omega)
  generalize hat : (r : Int) * n + c = a
  have a0 : 0 ≤ a := by omega
  have a1 : a ≤ 2000000 := by omega
  have k1 : mulOk mx a = true := mulOk_r (by omega) (by omega)
  have k2 : mulOk (mx * a) (a + b + 7) = true := mulOk_r (by omega) (by omega)
  have d3 : ∀ x, divOk x 3 = true := fun x => divOk_s (by omega) (by omega)
  have dm : ∀ x, divOk x m = true := fun x => divOk_m m0 (by omega)
  have fin' : ∀ (w : Int) (ls' : List Int) (x12 : Sl), sApp 8 false (eOp kSub (eOp kMod (eVar 11) (eVar 4)) (eOp kDiv (eVar 4) (eC (.int 3)))) [.sh (.lst (ns.map .int)), .sh (.int (n : Int)), .sh (.int b), .sh (.int mx), .sh (.int m), s5, .ow (ls'.map .int), .sh (.int (r : Int)), .ow (row.map .int), .sh (.int (c : Int)), .sh (.int a), .sh (.int w), x12] =
      .nx [.sh (.lst (ns.map .int)), .sh (.int (n : Int)), .sh (.int b), .sh (.int mx), .sh (.int m), s5, .ow (ls'.map .int), .sh (.int (r : Int)), .ow (row.map .int ++ [.int (w % m - m / 3)]), .sh (.int (c : Int)), .sh (.int a), .sh (.int w), x12] := by
    intro w ls' x12
    refine (sApp_ok rfl (by rw [List.length_map]; omega) ?_).trans rfl
    simp (disch := omega) only [sSeq_e, then_nx, then_rt, then_ex, fin_ok, fin_ex, sSet_e, sOwn_e, sRet_e, sExpr_e, sRetVar_e, retN_sh, retN_ow, retN_ow2, sIf_e, selS_t, selS_f, selE_t, selE_f, stf_f, stf_t, bind_ok, bind_ex, dat_sh, dat_ow, dat_ow2, dat_ex, ofO_some, eVar_e, eOp_e, eUn_e, eIf_e, fB_e, dB_bl, fAnd_e, fOr_e, andT_t, andT_f, andT_x, orT_t, orT_f, orT_x, fNot_e, eAnd_e, eOr_e, andE_t, andE_f, orE_t, orE_f, eNot_e, dN_bl, eCh_e, chN_t, chN_f, eCh3_e, chN2_t, chN2_f, aCons_e, aNil_e, eLst_e, eTup_e, eCall_e, eFn_e, eC_e, sTgt_e, tgtN_some, sPar_e, parN_e, sRaise_e, sNil_e, eTab_e, tabN_e, eIndexT_e, idxN_e, endS_rt, endS_nx, endS_ex, view_sh, view_ow, view_ow2, shs_cons, shs_nil, shO_sh, shO_dead, shO_ow, shO_ow2, setR_c, setR_n, un1_e, unT_e, oNone_e, oSome_e, dI_int, fDef, List.append_nil, List.nil_append, List.cons_append, List.replicate_succ, List.replicate_zero, List.length_cons, List.length_nil, List.set_cons_zero, List.set_cons_succ, List.getElem?_cons_zero, List.getElem?_cons_succ, Nat.sub_zero, Nat.reduceSub, Nat.reduceAdd, Nat.reduceLeDiff, if_true, if_false, ite_true, ite_false, Bool.false_eq_true, decide_true, decide_false, Bool.not_true, Bool.not_false, kSub_int, kAdd_int, kLt_int, kLe_int, kGt_int, kGe_int, kEq_int, kNe_int, kMod_int, kEq_pair, kNe_pair, Bool.and_true, Bool.and_false, Bool.true_and, Bool.false_and, (fun x => kDiv_int (d3 x))]
  have vb : ∀ w : Int, -10 ^ 25 ≤ w % m - m / 3 ∧ w % m - m / 3 ≤ 10 ^ 25 := fun w => by
    have h1 : 0 ≤ w % m := Int.emod_nonneg w (by omega)
    have h2 : w % m < m := Int.emod_lt_of_pos w m0
    omega
  by_cases e : ns = []
  · refine ⟨(mx * a * (a + b + 7) / 3) % m - m / 3, ls, .sh (.int a), .sh (.int (mx * a * (a + b + 7) / 3)), x12, vb _, hls, ?_⟩
    unfold drE drIn
    rw [List.map_append]
    simp only [sSeq_e, then_nx, then_rt, then_ex, fin_ok, fin_ex, sSet_e, sOwn_e, sRet_e, sExpr_e, sRetVar_e, retN_sh, retN_ow, retN_ow2, sIf_e, selS_t, selS_f, selE_t, selE_f, stf_f, stf_t, bind_ok, bind_ex, dat_sh, dat_ow, dat_ow2, dat_ex, ofO_some, eVar_e, eOp_e, eUn_e, eIf_e, fB_e, dB_bl, fAnd_e, fOr_e, andT_t, andT_f, andT_x, orT_t, orT_f, orT_x, fNot_e, eAnd_e, eOr_e, andE_t, andE_f, orE_t, orE_f, eNot_e, dN_bl, eCh_e, chN_t, chN_f, eCh3_e, chN2_t, chN2_f, aCons_e, aNil_e, eLst_e, eTup_e, eCall_e, eFn_e, eC_e, sTgt_e, tgtN_some, sPar_e, parN_e, sRaise_e, sNil_e, eTab_e, tabN_e, eIndexT_e, idxN_e, endS_rt, endS_nx, endS_ex, view_sh, view_ow, view_ow2, shs_cons, shs_nil, shO_sh, shO_dead, shO_ow, shO_ow2, setR_c, setR_n, un1_e, unT_e, oNone_e, oSome_e, dI_int, fDef, List.append_nil, List.nil_append, List.cons_append, List.replicate_succ, List.replicate_zero, List.length_cons, List.length_nil, List.set_cons_zero, List.set_cons_succ, List.getElem?_cons_zero, List.getElem?_cons_succ, Nat.sub_zero, Nat.reduceSub, Nat.reduceAdd, Nat.reduceLeDiff, if_true, if_false, ite_true, ite_false, Bool.false_eq_true, decide_true, decide_false, Bool.not_true, Bool.not_false, kSub_int, kAdd_int, kLt_int, kLe_int, kGt_int, kGe_int, kEq_int, kNe_int, kMod_int, kEq_pair, kNe_pair, Bool.and_true, Bool.and_false, Bool.true_and, Bool.false_and, kMul_int m1', hat, kMul_int k1, kMul_int k2, (fun x => kDiv_int (d3 x)), kNe_ints_nil, decide_eq_true e, fin', List.map_cons, List.map_nil]
  · have hl0 : 0 < ns.length := List.length_pos_iff.mpr e
    have s0 : 0 ≤ (a + b) % (ns.length : Int) := Int.emod_nonneg _ (by omega)
    have s1 : (a + b) % (ns.length : Int) < ns.length := Int.emod_lt_of_pos _ (by omega)
    generalize hsp : (a + b) % (ns.length : Int) = sp at *
    have ix := kIx_ints (xs := ls) (i := sp) s0 (by omega)
    generalize hw0 : ls[sp.toNat]'(by omega) = w0 at ix
    have k3 : mulOk 977 a = true := mulOk_l (by omega) (by omega)
    have k4 : mulOk (w0 + 977 * a) 48271 = true := mulOk_r (by omega) (by omega)
    have q0 : 0 ≤ (w0 + 977 * a) * 48271 % 2147483647 := Int.emod_nonneg _ (by omega)
    have q1 : (w0 + 977 * a) * 48271 % 2147483647 < 2147483647 := Int.emod_lt_of_pos _ (by omega)
    have k5 : mulOk ((w0 + 977 * a) * 48271 % 2147483647) (w0 + a + b) = true := mulOk_l (by omega) (by omega)
    have hput : ∀ w : Int, sPutI 6 true (eOp kDiv (eOp kIx (eVar 6) (eVar 12)) (eVar 4)) (eVar 12) [.sh (.lst (ns.map .int)), .sh (.int (n : Int)), .sh (.int b), .sh (.int mx), .sh (.int m), s5, .ow (ls.map .int), .sh (.int (r : Int)), .ow (row.map .int), .sh (.int (c : Int)), .sh (.int a), .sh (.int w), .sh (.int sp)] =
        .nx [.sh (.lst (ns.map .int)), .sh (.int (n : Int)), .sh (.int b), .sh (.int mx), .sh (.int m), s5, .ow ((ls.set sp.toNat (w0 / m)).map .int), .sh (.int (r : Int)), .ow (row.map .int), .sh (.int (c : Int)), .sh (.int a), .sh (.int w), .sh (.int sp)] := by
      intro w
      refine (sPutI_ok (d := .int (w0 / m)) (k := sp) (j := sp.toNat) (by simp only [sSeq_e, then_nx, then_rt, then_ex, fin_ok, fin_ex, sSet_e, sOwn_e, sRet_e, sExpr_e, sRetVar_e, retN_sh, retN_ow, retN_ow2, sIf_e, selS_t, selS_f, selE_t, selE_f, stf_f, stf_t, bind_ok, bind_ex, dat_sh, dat_ow, dat_ow2, dat_ex, ofO_some, eVar_e, eOp_e, eUn_e, eIf_e, fB_e, dB_bl, fAnd_e, fOr_e, andT_t, andT_f, andT_x, orT_t, orT_f, orT_x, fNot_e, eAnd_e, eOr_e, andE_t, andE_f, orE_t, orE_f, eNot_e, dN_bl, eCh_e, chN_t, chN_f, eCh3_e, chN2_t, chN2_f, aCons_e, aNil_e, eLst_e, eTup_e, eCall_e, eFn_e, eC_e, sTgt_e, tgtN_some, sPar_e, parN_e, sRaise_e, sNil_e, eTab_e, tabN_e, eIndexT_e, idxN_e, endS_rt, endS_nx, endS_ex, view_sh, view_ow, view_ow2, shs_cons, shs_nil, shO_sh, shO_dead, shO_ow, shO_ow2, setR_c, setR_n, un1_e, unT_e, oNone_e, oSome_e, dI_int, fDef, List.append_nil, List.nil_append, List.cons_append, List.replicate_succ, List.replicate_zero, List.length_cons, List.length_nil, List.set_cons_zero, List.set_cons_succ, List.getElem?_cons_zero, List.getElem?_cons_succ, Nat.sub_zero, Nat.reduceSub, Nat.reduceAdd, Nat.reduceLeDiff, if_true, if_false, ite_true, ite_false, Bool.false_eq_true, decide_true, decide_false, Bool.not_true, Bool.not_false, kSub_int, kAdd_int, kLt_int, kLe_int, kGt_int, kGe_int, kEq_int, kNe_int, kMod_int, kEq_pair, kNe_pair, Bool.and_true, Bool.and_false, Bool.true_and, Bool.false_and, ix, (fun x => kDiv_int (dm x)), sep_int]) rfl (by simp only [sSeq_e, then_nx, then_rt, then_ex, fin_ok, fin_ex, sSet_e, sOwn_e, sRet_e, sExpr_e, sRetVar_e, retN_sh, retN_ow, retN_ow2, sIf_e, selS_t, selS_f, selE_t, selE_f, stf_f, stf_t, bind_ok, bind_ex, dat_sh, dat_ow, dat_ow2, dat_ex, ofO_some, eVar_e, eOp_e, eUn_e, eIf_e, fB_e, dB_bl, fAnd_e, fOr_e, andT_t, andT_f, andT_x, orT_t, orT_f, orT_x, fNot_e, eAnd_e, eOr_e, andE_t, andE_f, orE_t, orE_f, eNot_e, dN_bl, eCh_e, chN_t, chN_f, eCh3_e, chN2_t, chN2_f, aCons_e, aNil_e, eLst_e, eTup_e, eCall_e, eFn_e, eC_e, sTgt_e, tgtN_some, sPar_e, parN_e, sRaise_e, sNil_e, eTab_e, tabN_e, eIndexT_e, idxN_e, endS_rt, endS_nx, endS_ex, view_sh, view_ow, view_ow2, shs_cons, shs_nil, shO_sh, shO_dead, shO_ow, shO_ow2, setR_c, setR_n, un1_e, unT_e, oNone_e, oSome_e, dI_int, fDef, List.append_nil, List.nil_append, List.cons_append, List.replicate_succ, List.replicate_zero, List.length_cons, List.length_nil, List.set_cons_zero, List.set_cons_succ, List.getElem?_cons_zero, List.getElem?_cons_succ, Nat.sub_zero, Nat.reduceSub, Nat.reduceAdd, Nat.reduceLeDiff, if_true, if_false, ite_true, ite_false, Bool.false_eq_true, decide_true, decide_false, Bool.not_true, Bool.not_false, kSub_int, kAdd_int, kLt_int, kLe_int, kGt_int, kGe_int, kEq_int, kNe_int, kMod_int, kEq_pair, kNe_pair, Bool.and_true, Bool.and_false, Bool.true_and, Bool.false_and]) (ixN_int s0 (by rw [List.length_map]; omega))).trans ?_
      rw [List.map_set]
      rfl
    by_cases e2 : w0 < 10 ^ 18
    · refine ⟨(((w0 + 977 * a) * 48271 % 2147483647) * (w0 + a + b)) % m - m / 3, ls.set sp.toNat (w0 / m), .sh (.int a), .sh (.int (((w0 + 977 * a) * 48271 % 2147483647) * (w0 + a + b))), .sh (.int sp), vb _, by rw [List.length_set]; exact hls, ?_⟩
      unfold drE drIn
      rw [List.map_append]
      simp (disch := omega) only [sSeq_e, then_nx, then_rt, then_ex, fin_ok, fin_ex, sSet_e, sOwn_e, sRet_e, sExpr_e, sRetVar_e, retN_sh, retN_ow, retN_ow2, sIf_e, selS_t, selS_f, selE_t, selE_f, stf_f, stf_t, bind_ok, bind_ex, dat_sh, dat_ow, dat_ow2, dat_ex, ofO_some, eVar_e, eOp_e, eUn_e, eIf_e, fB_e, dB_bl, fAnd_e, fOr_e, andT_t, andT_f, andT_x, orT_t, orT_f, orT_x, fNot_e, eAnd_e, eOr_e, andE_t, andE_f, orE_t, orE_f, eNot_e, dN_bl, eCh_e, chN_t, chN_f, eCh3_e, chN2_t, chN2_f, aCons_e, aNil_e, eLst_e, eTup_e, eCall_e, eFn_e, eC_e, sTgt_e, tgtN_some, sPar_e, parN_e, sRaise_e, sNil_e, eTab_e, tabN_e, eIndexT_e, idxN_e, endS_rt, endS_nx, endS_ex, view_sh, view_ow, view_ow2, shs_cons, shs_nil, shO_sh, shO_dead, shO_ow, shO_ow2, setR_c, setR_n, un1_e, unT_e, oNone_e, oSome_e, dI_int, fDef, List.append_nil, List.nil_append, List.cons_append, List.replicate_succ, List.replicate_zero, List.length_cons, List.length_nil, List.set_cons_zero, List.set_cons_succ, List.getElem?_cons_zero, List.getElem?_cons_succ, Nat.sub_zero, Nat.reduceSub, Nat.reduceAdd, Nat.reduceLeDiff, if_true, if_false, ite_true, ite_false, Bool.false_eq_true, decide_true, decide_false, Bool.not_true, Bool.not_false, kSub_int, kAdd_int, kLt_int, kLe_int, kGt_int, kGe_int, kEq_int, kNe_int, kMod_int, kEq_pair, kNe_pair, Bool.and_true, Bool.and_false, Bool.true_and, Bool.false_and, kMul_int m1', hat, kMul_int k1, kMul_int k2, (fun x => kDiv_int (d3 x)), kNe_ints_nil, decide_eq_false e, kLen_ints, hsp, ix, sep_int, pow18, decide_eq_true e2, kMul_int k3, kMul_int k4, kMul_int k5, hput, fin', List.map_cons, List.map_nil]
    · refine ⟨w0 % m - m / 3, ls.set sp.toNat (w0 / m), .sh (.int a), .sh (.int w0), .sh (.int sp), vb _, by rw [List.length_set]; exact hls, ?_⟩
      unfold drE drIn
      rw [List.map_append]
      simp (disch := omega) only [sSeq_e, then_nx, then_rt, then_ex, fin_ok, fin_ex, sSet_e, sOwn_e, sRet_e, sExpr_e, sRetVar_e, retN_sh, retN_ow, retN_ow2, sIf_e, selS_t, selS_f, selE_t, selE_f, stf_f, stf_t, bind_ok, bind_ex, dat_sh, dat_ow, dat_ow2, dat_ex, ofO_some, eVar_e, eOp_e, eUn_e, eIf_e, fB_e, dB_bl, fAnd_e, fOr_e, andT_t, andT_f, andT_x, orT_t, orT_f, orT_x, fNot_e, eAnd_e, eOr_e, andE_t, andE_f, orE_t, orE_f, eNot_e, dN_bl, eCh_e, chN_t, chN_f, eCh3_e, chN2_t, chN2_f, aCons_e, aNil_e, eLst_e, eTup_e, eCall_e, eFn_e, eC_e, sTgt_e, tgtN_some, sPar_e, parN_e, sRaise_e, sNil_e, eTab_e, tabN_e, eIndexT_e, idxN_e, endS_rt, endS_nx, endS_ex, view_sh, view_ow, view_ow2, shs_cons, shs_nil, shO_sh, shO_dead, shO_ow, shO_ow2, setR_c, setR_n, un1_e, unT_e, oNone_e, oSome_e, dI_int, fDef, List.append_nil, List.nil_append, List.cons_append, List.replicate_succ, List.replicate_zero, List.length_cons, List.length_nil, List.set_cons_zero, List.set_cons_succ, List.getElem?_cons_zero, List.getElem?_cons_succ, Nat.sub_zero, Nat.reduceSub, Nat.reduceAdd, Nat.reduceLeDiff, if_true, if_false, ite_true, ite_false, Bool.false_eq_true, decide_true, decide_false, Bool.not_true, Bool.not_false, kSub_int, kAdd_int, kLt_int, kLe_int, kGt_int, kGe_int, kEq_int, kNe_int, kMod_int, kEq_pair, kNe_pair, Bool.and_true, Bool.and_false, Bool.true_and, Bool.false_and, kMul_int m1', hat, kMul_int k1, kMul_int k2, (fun x => kDiv_int (d3 x)), kNe_ints_nil, decide_eq_false e, kLen_ints, hsp, ix, sep_int, pow18, decide_eq_false e2, hput, fin', List.map_cons, List.map_nil]
theorem ev_law_draw {ns : List Int} {n : Nat} {b : Int} (h0 : 0 < n) (hn : n ≤ 1000) (b0 : 0 ≤ b) (b9 : b ≤ 9) : ∃ xss, Sq xss n ∧ Sm xss ∧ f__law_draw [.lst (ns.map .int), .int (n : Int), .int b] = .ok (.ow2 (dD xss)) := by
  have d5 : ∀ x, divOk x 5 = true := fun x => divOk_s (by omega) (by omega)
  obtain ⟨m, hm, m0, m1⟩ : ∃ m, kIx (.tup [.int 2, .int 3, .int 30, .int (10 ^ 25)]) (.int ((ns.sum + b) / 5 % 4)) = some (.sh (.int m)) ∧ 0 < m ∧ m ≤ 10 ^ 25 := by
    have : (ns.sum + b) / 5 % 4 = 0 ∨ (ns.sum + b) / 5 % 4 = 1 ∨ (ns.sum + b) / 5 % 4 = 2 ∨ (ns.sum + b) / 5 % 4 = 3 := by omega
    rcases this with e | e | e | e <;> rw [e]
    · exact ⟨_, kIx_tup0, by decide, by decide⟩
    · exact ⟨_, kIx_tup1, by decide, by decide⟩
    · exact ⟨_, kIx_tup2, by decide, by decide⟩
    · exact ⟨_, kIx_tup3, by decide, by decide⟩
  have rg := rangeN_nat (show n ≤ 1000000 by omega)
  obtain ⟨ρ', e1, s5, ls, x7, x8, x9, x10, x11, x12, xss, e2, e3, e4, e5, e6⟩ := loop_range (i := 7) (n := n) (g := (sSeq (sOwn 8 false (eLst (aNil))) (sSeq (sFor (iR1 (aCons (eVar 1) (aNil))) [9] un1 drIn) (sMove 5 8))))
    (fun k ρ => ∃ s5 ls x7 x8 x9 x10 x11 x12 xss, ρ = drE ns n b (ns.sum + b) m s5 ls x7 x8 x9 x10 x11 x12 ∧ ls.length = ns.length ∧ as2 s5 = some (dD xss) ∧ (xss.length = k ∧ ∀ r ∈ xss, r.length = n) ∧ Sm xss) (fun r ρ hr ⟨s5, ls, x7, x8, x9, x10, x11, x12, xss, hρ, hls, hs5, hsq, hsm⟩ => by
      subst hρ
      obtain ⟨ρ'', f1, ls', row, y9, y10, y11, y12, f2, f3, f4, f5⟩ := loop_range (i := 9) (n := n) (g := drIn) (fun k ρ => ∃ ls' row y9 y10 y11 y12, ρ = drE ns n b (ns.sum + b) m s5 ls' (.sh (.int (r : Int))) (.ow (row.map .int)) y9 y10 y11 y12 ∧ ls'.length = ns.length ∧ row.length = k ∧ ∀ z ∈ row, -10 ^ 25 ≤ z ∧ z ≤ 10 ^ 25) (fun c ρ hc ⟨ls', row, y9, y10, y11, y12, hρ, g1, g2, g3⟩ => by
        subst hρ
        obtain ⟨v, ls2, z10, z11, z12, v1, v2, v3⟩ := ev_drIn (mx := ns.sum + b) hn hr hc b0 b9 m0 m1 g1 (row := row) (by omega) s5 y10 y11 y12
        refine ⟨_, v3, ls2, row ++ [v], _, _, _, _, rfl, v2, by rw [List.length_append, g2]; rfl, fun z hz => ?_⟩
        rcases List.mem_append.mp hz with h | h
        · exact g3 z h
        · rw [List.mem_singleton.mp h]; exact v1) (ρ := drE ns n b (ns.sum + b) m s5 ls (.sh (.int (r : Int))) (.ow (([] : List Int).map .int)) x9 x10 x11 x12) ⟨ls, [], x9, x10, x11, x12, rfl, hls, rfl, fun z hz => by cases hz⟩
      subst f2
      have hmv : sMove 5 8 (drE ns n b (ns.sum + b) m s5 ls' (.sh (.int (r : Int))) (.ow (row.map .int)) y9 y10 y11 y12) = .nx (drE ns n b (ns.sum + b) m (.ow2 (dD (xss ++ [row]))) ls' (.sh (.int (r : Int))) .dead y9 y10 y11 y12) := by
        refine (sMove_ok (by decide) rfl hs5 rfl (by rw [dD_len, hsq.1]; omega)).trans ?_
        rw [dD_append]
        rfl
      refine ⟨drE ns n b (ns.sum + b) m (.ow2 (dD (xss ++ [row]))) ls' (.sh (.int (r : Int))) .dead y9 y10 y11 y12, ?_, _, _, _, _, _, _, _, _, xss ++ [row], rfl, f3, rfl, ⟨by rw [List.length_append, hsq.1]; rfl, fun q hq => ?_⟩, fun q hq => ?_⟩
      · unfold drE at *
        simp only [sSeq_e, sOwn_e, stf_f, eLst_e, aNil_e, bind_ok, List.length_nil, Nat.zero_le, if_true, fin_ok, then_nx, List.set_cons_zero, List.set_cons_succ, sFor_e, shs_cons, shs_nil, shO_sh, iR1_e, aCons_e, eVar_e, List.getElem?_cons_zero, List.getElem?_cons_succ, view_sh, dat_sh, rN_int, rg, List.map_nil] at f1 hmv ⊢
        simp only [f1, then_nx, hmv]
      · rcases List.mem_append.mp hq with h | h
        · exact hsq.2 q h
        · rw [List.mem_singleton.mp h]; exact f4
      · rcases List.mem_append.mp hq with h | h
        · exact hsm q h
        · rw [List.mem_singleton.mp h]; exact f5) (ρ := drE ns n b (ns.sum + b) m (.ow []) ns .dead .dead .dead .dead .dead .dead) ⟨.ow [], ns, _, _, _, _, _, _, [], rfl, rfl, rfl, ⟨rfl, fun r hr => by cases hr⟩, fun r hr => by cases hr⟩
  subst e2
  refine ⟨xss, e5, e6, ?_⟩
  have hs : s5 = .ow2 (dD xss) := as2_ow2 e4 (fun z => by
    have := congrArg List.length z
    rw [dD_len, e5.1] at this
    simp at this
    omega)
  subst hs
  unfold drE drIn at e1
  simp (disch := omega) only [f__law_draw, g__law_draw, sSeq_e, then_nx, then_rt, then_ex, fin_ok, fin_ex, sSet_e, sOwn_e, sRet_e, sExpr_e, sRetVar_e, retN_sh, retN_ow, retN_ow2, sIf_e, selS_t, selS_f, selE_t, selE_f, stf_f, stf_t, bind_ok, bind_ex, dat_sh, dat_ow, dat_ow2, dat_ex, ofO_some, eVar_e, eOp_e, eUn_e, eIf_e, fB_e, dB_bl, fAnd_e, fOr_e, andT_t, andT_f, andT_x, orT_t, orT_f, orT_x, fNot_e, eAnd_e, eOr_e, andE_t, andE_f, orE_t, orE_f, eNot_e, dN_bl, eCh_e, chN_t, chN_f, eCh3_e, chN2_t, chN2_f, aCons_e, aNil_e, eLst_e, eTup_e, eCall_e, eFn_e, eC_e, sTgt_e, tgtN_some, sPar_e, parN_e, sRaise_e, sNil_e, eTab_e, tabN_e, eIndexT_e, idxN_e, endS_rt, endS_nx, endS_ex, view_sh, view_ow, view_ow2, shs_cons, shs_nil, shO_sh, shO_dead, shO_ow, shO_ow2, setR_c, setR_n, un1_e, unT_e, oNone_e, oSome_e, dI_int, fDef, List.append_nil, List.nil_append, List.cons_append, List.replicate_succ, List.replicate_zero, List.length_cons, List.length_nil, List.set_cons_zero, List.set_cons_succ, List.getElem?_cons_zero, List.getElem?_cons_succ, Nat.sub_zero, Nat.reduceSub, Nat.reduceAdd, Nat.reduceLeDiff, if_true, if_false, ite_true, ite_false, Bool.false_eq_true, decide_true, decide_false, Bool.not_true, Bool.not_false, kSub_int, kAdd_int, kLt_int, kLe_int, kGt_int, kGe_int, kEq_int, kNe_int, kMod_int, kEq_pair, kNe_pair, Bool.and_true, Bool.and_false, Bool.true_and, Bool.false_and, List.map_cons, List.map_nil, kSum_ints, pow25, (fun x => kDiv_int (d5 x)), hm, Nat.zero_le, kList_lst, sFor_e, iR1_e, rN_int, rg, e1]

end K05

namespace K05
open PySem PySem.Spec PyProof.Rows L2 G6
section
variable {n m : Nat} {f g : Nat → Nat → Int}
theorem copy_lc {v j : Nat} {ρ : Rho} (hn : n ≤ 10000) (h0 : dat (eVar v ρ) = .ok (dM (tb n n f))) (hj : ∀ d : Da, eVar j ((wipeR ρ [j]).set j (.sh d)) = .ok (.sh d)) : eLc2 (iL asL (eVar v)) [j] un1 [j] (eCall kList (aCons (eVar j) (aNil))) ρ = .ok (.ow2 (dD (tb n n f))) := by
  have := eLc2_ok (fI := iL asL (eVar v)) (is := [j]) (un := un1) (vs := [j]) (fe := eCall kList (aCons (eVar j) (aNil))) (ρ := ρ) (items := (List.range n).map fun r => rowD n (f r)) (fun d => match kList [d] with | some (.ow ys) => ys | _ => [])
    (by rw [iL_e, h0, bind_ok, asL_dMtb, ofO_some]) (by simp; omega) (fun d hd => elO_un1 (by
      obtain ⟨r, hr, rfl⟩ := List.mem_map.mp hd
      simp only [eCall_e, aCons_e, aNil_e, hj, dat_sh, bind_ok, kList_rowD, ofO_some]))
  rw [this, dD_tb', List.map_map]
  rfl
theorem sep_dD {xss : List (List Int)} : sep (.ow2 (dD xss)) = true := by
  show (dD xss).all (fun xs => xs.all seps) = true
  rw [List.all_eq_true]
  intro xs hxs
  unfold dD at hxs
  obtain ⟨r, _, rfl⟩ := List.mem_map.mp hxs
  rw [List.all_eq_true]
  intro d hd
  obtain ⟨i, _, rfl⟩ := List.mem_map.mp hd
  rfl
theorem atI_last' {α : Type} {xs : List α} {x : α} : atI (xs ++ [x]) (-1) = some x := by
  unfold atI ixN
  rw [if_neg (by omega), if_pos (by rw [List.length_append]; simp; omega)]
  show (xs ++ [x])[(-1 + ((xs ++ [x]).length : Int)).toNat]? = _
  have : (-1 + ((xs ++ [x]).length : Int)).toNat = xs.length := by rw [List.length_append]; simp; omega
  rw [this]
  simp
theorem kIx_last {xs : List Da} {x : Da} : kIx (.lst (xs ++ [x])) (.int (-1)) = some (.sh x) := by
  show (atI (xs ++ [x]) (-1)).map Sl.sh = _
  rw [atI_last']; rfl
theorem kNeg_e {i : Int} : kNeg (.int i) = some (.sh (.int (-i))) := rfl
theorem kIx_l0 {x : Da} {xs : List Da} : kIx (.lst (x :: xs)) (.int 0) = some (.sh x) := by
  show (atI (x :: xs) 0).map Sl.sh = _
  rw [show (0 : Int) = ((0 : Nat) : Int) from rfl, atI_nat (v := x) rfl]; rfl
theorem kIx_l1 {x y : Da} {xs : List Da} : kIx (.lst (x :: y :: xs)) (.int 1) = some (.sh y) := by
  show (atI (x :: y :: xs) 1).map Sl.sh = _
  rw [show (1 : Int) = ((1 : Nat) : Int) from rfl, atI_nat (v := y) rfl]; rfl
theorem loop_nil' {is : List Nat} {un : Unp} {a : SemS} {ρ : Rho} : loopF is un a [] ρ = .nx ρ := rfl
theorem kIx_tbk {k : Nat} (hk : k < n) : kIx (dM (tb n n f)) (.int (k : Int)) = some (.sh (rowD n (f k))) := by
  rw [kIx_dM (tb_row hk)]
  exact congrArg (fun z => some (Sl.sh z)) rowD_eq
theorem kIx_tb0 (h0 : 0 < n) : kIx (dM (tb n n f)) (.int 0) = some (.sh (rowD n (f 0))) := kIx_tbk (k := 0) h0
theorem kIx_row0 {g : Nat → Int} (h0 : 0 < n) : kIx (rowD n g) (.int 0) = some (.sh (.int (g 0))) := kIx_rowD (k := 0) h0
theorem kIx_tbL (h0 : 0 < n) : kIx (dM (tb n n f)) (.int (-1)) = some (.sh (rowD n (f (n - 1)))) := by
  obtain ⟨k, rfl⟩ : ∃ k, n = k + 1 := ⟨n - 1, by omega⟩
  rw [dM_tb, List.range_succ, List.map_append]
  exact kIx_last
theorem kIx_rowL {g : Nat → Int} (h0 : 0 < n) : kIx (rowD n g) (.int (-1)) = some (.sh (.int (g (n - 1)))) := by
  obtain ⟨k, rfl⟩ : ∃ k, n = k + 1 := ⟨n - 1, by omega⟩
  unfold rowD
  rw [List.range_succ, List.map_append]
  exact kIx_last
theorem dM_own {xs : List (List Int)} : Da.lst (xs.map fun r => Da.lst (r.map .int)) = dM xs := rfl
theorem eqF_dM {xs : List (List Int)} {k : Nat} : eqF (k + 2) (dM xs) (dM xs) = true := by
  rw [show eqF (k + 2) (dM xs) (dM xs) = decide (xs = xs) from eqL_rows, decide_eq_true rfl]
end
end K05

namespace K05
open PySem PySem.Spec PyProof.Rows L2 G6
theorem ev_lines {n : Nat} (h : n ≤ 10000) : f_lines [.int (n : Int)] = .ok (.ow ((lns n).map lnD)) := by
  have l1 : ∀ (w : Str) (x1 : Sl), eLc (iR1 (aCons (eVar 0) (aNil))) [2] un1 [2] (eTup (aCons (eC (.str w)) (aCons (eVar 2) (aNil)))) [.sh (.int (n : Int)), x1, .dead] = .ok (.ow (((List.range n).map fun (k : Nat) => Da.int (k : Int)).map fun d => .tup [.str w, d])) := by
    intro w x1
    refine eLc_ok _ (by simp only [iR1_e, rN_int, rangeN_nat (show n ≤ 1000000 by omega), sSeq_e, then_nx, then_rt, then_ex, fin_ok, fin_ex, sSet_e, sOwn_e, sRet_e, sExpr_e, sRetVar_e, retN_sh, retN_ow, retN_ow2, sIf_e, selS_t, selS_f, selE_t, selE_f, stf_f, stf_t, bind_ok, bind_ex, dat_sh, dat_ow, dat_ow2, dat_ex, ofO_some, eVar_e, eOp_e, eUn_e, eIf_e, fB_e, dB_bl, fAnd_e, fOr_e, andT_t, andT_f, andT_x, orT_t, orT_f, orT_x, fNot_e, eAnd_e, eOr_e, andE_t, andE_f, orE_t, orE_f, eNot_e, dN_bl, eCh_e, chN_t, chN_f, eCh3_e, chN2_t, chN2_f, aCons_e, aNil_e, eLst_e, eTup_e, eCall_e, eFn_e, eC_e, sTgt_e, tgtN_some, sPar_e, parN_e, sRaise_e, sNil_e, eTab_e, tabN_e, eIndexT_e, idxN_e, endS_rt, endS_nx, endS_ex, view_sh, view_ow, view_ow2, shs_cons, shs_nil, shO_sh, shO_dead, shO_ow, shO_ow2, setR_c, setR_n, un1_e, unT_e, oNone_e, oSome_e, dI_int, fDef, List.append_nil, List.nil_append, List.cons_append, List.replicate_succ, List.replicate_zero, List.length_cons, List.length_nil, List.set_cons_zero, List.set_cons_succ, List.getElem?_cons_zero, List.getElem?_cons_succ, Nat.sub_zero, Nat.reduceSub, Nat.reduceAdd, Nat.reduceLeDiff, if_true, if_false, ite_true, ite_false, Bool.false_eq_true, decide_true, decide_false, Bool.not_true, Bool.not_false, kSub_int, kAdd_int, kLt_int, kLe_int, kGt_int, kGe_int, kEq_int, kNe_int, kMod_int, kEq_pair, kNe_pair, Bool.and_true, Bool.and_false, Bool.true_and, Bool.false_and]) (by simp; omega) fun d hd => elD_un1 ?_
    simp only [wipeR, sSeq_e, then_nx, then_rt, then_ex, fin_ok, fin_ex, sSet_e, sOwn_e, sRet_e, sExpr_e, sRetVar_e, retN_sh, retN_ow, retN_ow2, sIf_e, selS_t, selS_f, selE_t, selE_f, stf_f, stf_t, bind_ok, bind_ex, dat_sh, dat_ow, dat_ow2, dat_ex, ofO_some, eVar_e, eOp_e, eUn_e, eIf_e, fB_e, dB_bl, fAnd_e, fOr_e, andT_t, andT_f, andT_x, orT_t, orT_f, orT_x, fNot_e, eAnd_e, eOr_e, andE_t, andE_f, orE_t, orE_f, eNot_e, dN_bl, eCh_e, chN_t, chN_f, eCh3_e, chN2_t, chN2_f, aCons_e, aNil_e, eLst_e, eTup_e, eCall_e, eFn_e, eC_e, sTgt_e, tgtN_some, sPar_e, parN_e, sRaise_e, sNil_e, eTab_e, tabN_e, eIndexT_e, idxN_e, endS_rt, endS_nx, endS_ex, view_sh, view_ow, view_ow2, shs_cons, shs_nil, shO_sh, shO_dead, shO_ow, shO_ow2, setR_c, setR_n, un1_e, unT_e, oNone_e, oSome_e, dI_int, fDef, List.map_cons, List.map_nil, List.append_nil, List.nil_append, List.cons_append, List.replicate_succ, List.replicate_zero, List.length_cons, List.length_nil, List.set_cons_zero, List.set_cons_succ, List.getElem?_cons_zero, List.getElem?_cons_succ, Nat.sub_zero, Nat.reduceSub, Nat.reduceAdd, Nat.reduceLeDiff, if_true, if_false, ite_true, ite_false, Bool.false_eq_true, decide_true, decide_false, Bool.not_true, Bool.not_false, kSub_int, kAdd_int, kLt_int, kLe_int, kGt_int, kGe_int, kEq_int, kNe_int, kMod_int, kEq_pair, kNe_pair, Bool.and_true, Bool.and_false, Bool.true_and, Bool.false_and]
  have l2 : ((((List.range n).map fun (k : Nat) => Da.int (k : Int)).map fun d => Da.tup [.str "row", d]) ++ (((List.range n).map fun (k : Nat) => Da.int (k : Int)).map fun d => Da.tup [.str "column", d])) ++ [.tup [.str "down", .int 0], .tup [.str "up", .int 0]] = (lns n).map lnD := by
    unfold lns
    rw [List.map_append, List.map_append, List.map_map, List.map_map, List.map_map, List.map_map]
    rfl
  rw [← l2]
  simp (disch := (simp; omega)) only [f_lines, g_lines, fDef, endS_rt, List.map_cons, List.map_nil, List.length_cons, List.length_nil, Nat.reduceAdd, Nat.reduceSub, List.replicate_succ, List.replicate_zero, List.cons_append, List.nil_append, sSeq_e, sSet_e, sRet_e, stf_f, shs_cons, shs_nil, shO_sh, shO_dead, eOp_e, l1, dat_ow, dat_sh, bind_ok, kAdd_lst, ofO_some, fin_ok, then_nx, List.set_cons_zero, List.set_cons_succ, eVar_e, List.getElem?_cons_zero, List.getElem?_cons_succ, view_sh, eLst_e, eTup_e, aCons_e, aNil_e, eC_e, Nat.reduceLeDiff, if_true]
theorem psum_map {xss : List (List Int)} {n : Nat} {l : Ln} : ∀ k, psum xss n l k = ((List.range k).map (lterm xss n l)).sum
  | 0 => rfl
  | k + 1 => by
    rw [psum, psum_map k, List.range_succ, List.map_append, List.sum_append]
    simp
theorem ev_sum_along {xss : List (List Int)} {n : Nat} (h : Sq xss n) (h0 : 0 < n) (h1 : n ≤ 10000) {l : Ln} (hl : l ∈ lns n) : f_sum_along [dM xss, lnD l] = .ok (.sh (.int (lsum xss n l))) := by
  have hs : lsum xss n l = ((List.range n).map (lterm xss n l)).sum := psum_map n
  have hx := h.tb
  generalize hf : ent xss = f at hx
  subst hx
  have rg := rangeN_nat (show n ≤ 1000000 by omega)
  have last1 : (n : Int) - 1 + 1 = n := by omega
  rw [hs]
  cases l with
  | row k =>
    have hk := row_mem hl
    have e : (List.range n).map (lterm (tb n n f) n (.row k)) = (List.range n).map fun c => f k c := List.map_congr_left fun c hc => tb_ent hk (List.mem_range.mp hc)
    rw [e]
    have q := kIx_dM (tb_row (f := f) (m := n) hk)
    simp only [f_sum_along, g_sum_along, lnD, sSeq_e, then_nx, then_rt, then_ex, fin_ok, fin_ex, sSet_e, sOwn_e, sRet_e, sExpr_e, sRetVar_e, retN_sh, retN_ow, retN_ow2, sIf_e, selS_t, selS_f, selE_t, selE_f, stf_f, stf_t, bind_ok, bind_ex, dat_sh, dat_ow, dat_ow2, dat_ex, ofO_some, eVar_e, eOp_e, eUn_e, eIf_e, fB_e, dB_bl, fAnd_e, fOr_e, andT_t, andT_f, andT_x, orT_t, orT_f, orT_x, fNot_e, eAnd_e, eOr_e, andE_t, andE_f, orE_t, orE_f, eNot_e, dN_bl, eCh_e, chN_t, chN_f, eCh3_e, chN2_t, chN2_f, aCons_e, aNil_e, eLst_e, eTup_e, eCall_e, eFn_e, eC_e, sTgt_e, tgtN_some, sPar_e, parN_e, sRaise_e, sNil_e, eTab_e, tabN_e, eIndexT_e, idxN_e, endS_rt, endS_nx, endS_ex, view_sh, view_ow, view_ow2, shs_cons, shs_nil, shO_sh, shO_dead, shO_ow, shO_ow2, setR_c, setR_n, un1_e, unT_e, oNone_e, oSome_e, dI_int, fDef, List.append_nil, List.nil_append, List.cons_append, List.replicate_succ, List.replicate_zero, List.length_cons, List.length_nil, List.set_cons_zero, List.set_cons_succ, List.getElem?_cons_zero, List.getElem?_cons_succ, Nat.sub_zero, Nat.reduceSub, Nat.reduceAdd, Nat.reduceLeDiff, if_true, if_false, ite_true, ite_false, Bool.false_eq_true, decide_true, decide_false, Bool.not_true, Bool.not_false, kSub_int, kAdd_int, kLt_int, kLe_int, kGt_int, kGe_int, kEq_int, kNe_int, kMod_int, kEq_pair, kNe_pair, Bool.and_true, Bool.and_false, Bool.true_and, Bool.false_and, List.map_cons, List.map_nil, kLen_dM, tb_len, s_rr, q, kSum_ints]
  | col k =>
    have hk := col_mem hl
    have e : (List.range n).map (lterm (tb n n f) n (.col k)) = (List.range n).map fun c => f c k := List.map_congr_left fun c hc => tb_ent (List.mem_range.mp hc) hk
    rw [e]
    have hlc : eLc (iL asL (eVar 0)) [6] un1 [6] (eOp kIx (eVar 6) (eVar 3)) [.sh (dM (tb n n f)), .sh (.tup [.str "column", .int (k : Int)]), .sh (.str "column"), .sh (.int (k : Int)), .sh (.int ((n : Int) - 1)), .dead, .dead] = .ok (.ow (((List.range n).map fun c => f c k).map .int)) := by
      have := eLc_ok (fI := iL asL (eVar 0)) (is := [6]) (un := un1) (vs := [6]) (fe := eOp kIx (eVar 6) (eVar 3)) (ρ := [.sh (dM (tb n n f)), .sh (.tup [.str "column", .int (k : Int)]), .sh (.str "column"), .sh (.int (k : Int)), .sh (.int ((n : Int) - 1)), .dead, .dead]) (items := (List.range n).map fun r => rowD n (f r)) (fun d => match kIx d (.int (k : Int)) with | some (.sh y) => y | _ => .non)
        (by simp only [iL_e, sSeq_e, then_nx, then_rt, then_ex, fin_ok, fin_ex, sSet_e, sOwn_e, sRet_e, sExpr_e, sRetVar_e, retN_sh, retN_ow, retN_ow2, sIf_e, selS_t, selS_f, selE_t, selE_f, stf_f, stf_t, bind_ok, bind_ex, dat_sh, dat_ow, dat_ow2, dat_ex, ofO_some, eVar_e, eOp_e, eUn_e, eIf_e, fB_e, dB_bl, fAnd_e, fOr_e, andT_t, andT_f, andT_x, orT_t, orT_f, orT_x, fNot_e, eAnd_e, eOr_e, andE_t, andE_f, orE_t, orE_f, eNot_e, dN_bl, eCh_e, chN_t, chN_f, eCh3_e, chN2_t, chN2_f, aCons_e, aNil_e, eLst_e, eTup_e, eCall_e, eFn_e, eC_e, sTgt_e, tgtN_some, sPar_e, parN_e, sRaise_e, sNil_e, eTab_e, tabN_e, eIndexT_e, idxN_e, endS_rt, endS_nx, endS_ex, view_sh, view_ow, view_ow2, shs_cons, shs_nil, shO_sh, shO_dead, shO_ow, shO_ow2, setR_c, setR_n, un1_e, unT_e, oNone_e, oSome_e, dI_int, fDef, List.append_nil, List.nil_append, List.cons_append, List.replicate_succ, List.replicate_zero, List.length_cons, List.length_nil, List.set_cons_zero, List.set_cons_succ, List.getElem?_cons_zero, List.getElem?_cons_succ, Nat.sub_zero, Nat.reduceSub, Nat.reduceAdd, Nat.reduceLeDiff, if_true, if_false, ite_true, ite_false, Bool.false_eq_true, decide_true, decide_false, Bool.not_true, Bool.not_false, kSub_int, kAdd_int, kLt_int, kLe_int, kGt_int, kGe_int, kEq_int, kNe_int, kMod_int, kEq_pair, kNe_pair, Bool.and_true, Bool.and_false, Bool.true_and, Bool.false_and, asL_dMtb]) (by simp; omega) (fun d hd => elD_un1 (by
          obtain ⟨r, hr, rfl⟩ := List.mem_map.mp hd
          simp only [wipeR, sSeq_e, then_nx, then_rt, then_ex, fin_ok, fin_ex, sSet_e, sOwn_e, sRet_e, sExpr_e, sRetVar_e, retN_sh, retN_ow, retN_ow2, sIf_e, selS_t, selS_f, selE_t, selE_f, stf_f, stf_t, bind_ok, bind_ex, dat_sh, dat_ow, dat_ow2, dat_ex, ofO_some, eVar_e, eOp_e, eUn_e, eIf_e, fB_e, dB_bl, fAnd_e, fOr_e, andT_t, andT_f, andT_x, orT_t, orT_f, orT_x, fNot_e, eAnd_e, eOr_e, andE_t, andE_f, orE_t, orE_f, eNot_e, dN_bl, eCh_e, chN_t, chN_f, eCh3_e, chN2_t, chN2_f, aCons_e, aNil_e, eLst_e, eTup_e, eCall_e, eFn_e, eC_e, sTgt_e, tgtN_some, sPar_e, parN_e, sRaise_e, sNil_e, eTab_e, tabN_e, eIndexT_e, idxN_e, endS_rt, endS_nx, endS_ex, view_sh, view_ow, view_ow2, shs_cons, shs_nil, shO_sh, shO_dead, shO_ow, shO_ow2, setR_c, setR_n, un1_e, unT_e, oNone_e, oSome_e, dI_int, fDef, List.append_nil, List.nil_append, List.cons_append, List.replicate_succ, List.replicate_zero, List.length_cons, List.length_nil, List.set_cons_zero, List.set_cons_succ, List.getElem?_cons_zero, List.getElem?_cons_succ, Nat.sub_zero, Nat.reduceSub, Nat.reduceAdd, Nat.reduceLeDiff, if_true, if_false, ite_true, ite_false, Bool.false_eq_true, decide_true, decide_false, Bool.not_true, Bool.not_false, kSub_int, kAdd_int, kLt_int, kLe_int, kGt_int, kGe_int, kEq_int, kNe_int, kMod_int, kEq_pair, kNe_pair, Bool.and_true, Bool.and_false, Bool.true_and, Bool.false_and, kIx_rowD hk]))
      rw [this, List.map_map, List.map_map]
      congr 2
      refine List.map_congr_left fun r _ => ?_
      show (match kIx (rowD n (f r)) (.int (k : Int)) with | some (.sh y) => y | _ => .non) = Da.int (f r k)
      rw [kIx_rowD hk]
    simp only [f_sum_along, g_sum_along, lnD, sSeq_e, then_nx, then_rt, then_ex, fin_ok, fin_ex, sSet_e, sOwn_e, sRet_e, sExpr_e, sRetVar_e, retN_sh, retN_ow, retN_ow2, sIf_e, selS_t, selS_f, selE_t, selE_f, stf_f, stf_t, bind_ok, bind_ex, dat_sh, dat_ow, dat_ow2, dat_ex, ofO_some, eVar_e, eOp_e, eUn_e, eIf_e, fB_e, dB_bl, fAnd_e, fOr_e, andT_t, andT_f, andT_x, orT_t, orT_f, orT_x, fNot_e, eAnd_e, eOr_e, andE_t, andE_f, orE_t, orE_f, eNot_e, dN_bl, eCh_e, chN_t, chN_f, eCh3_e, chN2_t, chN2_f, aCons_e, aNil_e, eLst_e, eTup_e, eCall_e, eFn_e, eC_e, sTgt_e, tgtN_some, sPar_e, parN_e, sRaise_e, sNil_e, eTab_e, tabN_e, eIndexT_e, idxN_e, endS_rt, endS_nx, endS_ex, view_sh, view_ow, view_ow2, shs_cons, shs_nil, shO_sh, shO_dead, shO_ow, shO_ow2, setR_c, setR_n, un1_e, unT_e, oNone_e, oSome_e, dI_int, fDef, List.append_nil, List.nil_append, List.cons_append, List.replicate_succ, List.replicate_zero, List.length_cons, List.length_nil, List.set_cons_zero, List.set_cons_succ, List.getElem?_cons_zero, List.getElem?_cons_succ, Nat.sub_zero, Nat.reduceSub, Nat.reduceAdd, Nat.reduceLeDiff, if_true, if_false, ite_true, ite_false, Bool.false_eq_true, decide_true, decide_false, Bool.not_true, Bool.not_false, kSub_int, kAdd_int, kLt_int, kLe_int, kGt_int, kGe_int, kEq_int, kNe_int, kMod_int, kEq_pair, kNe_pair, Bool.and_true, Bool.and_false, Bool.true_and, Bool.false_and, List.map_cons, List.map_nil, kLen_dM, tb_len, s_cr, s_cc, hlc, kSum_ints]
  | down =>
    have e : (List.range n).map (lterm (tb n n f) n .down) = (List.range n).map fun c => f c c := List.map_congr_left fun c hc => tb_ent (List.mem_range.mp hc) (List.mem_range.mp hc)
    rw [e]
    have hlc : eLc (iR1 (aCons (eOp kAdd (eVar 4) (eC (.int 1))) (aNil))) [5] un1 [5] (eOp kIx (eOp kIx (eVar 0) (eVar 5)) (eVar 5)) [.sh (dM (tb n n f)), .sh (.tup [.str "down", .int 0]), .sh (.str "down"), .sh (.int 0), .sh (.int ((n : Int) - 1)), .dead, .dead] = .ok (.ow (((List.range n).map fun c => f c c).map .int)) := by
      have := eLc_ok (fI := iR1 (aCons (eOp kAdd (eVar 4) (eC (.int 1))) (aNil))) (is := [5]) (un := un1) (vs := [5]) (fe := eOp kIx (eOp kIx (eVar 0) (eVar 5)) (eVar 5)) (ρ := [.sh (dM (tb n n f)), .sh (.tup [.str "down", .int 0]), .sh (.str "down"), .sh (.int 0), .sh (.int ((n : Int) - 1)), .dead, .dead]) (items := (List.range n).map fun (k : Nat) => Da.int (k : Int)) (fun d => match d with | .int s => .int (f s.toNat s.toNat) | _ => .non)
        (by simp only [iR1_e, sSeq_e, then_nx, then_rt, then_ex, fin_ok, fin_ex, sSet_e, sOwn_e, sRet_e, sExpr_e, sRetVar_e, retN_sh, retN_ow, retN_ow2, sIf_e, selS_t, selS_f, selE_t, selE_f, stf_f, stf_t, bind_ok, bind_ex, dat_sh, dat_ow, dat_ow2, dat_ex, ofO_some, eVar_e, eOp_e, eUn_e, eIf_e, fB_e, dB_bl, fAnd_e, fOr_e, andT_t, andT_f, andT_x, orT_t, orT_f, orT_x, fNot_e, eAnd_e, eOr_e, andE_t, andE_f, orE_t, orE_f, eNot_e, dN_bl, eCh_e, chN_t, chN_f, eCh3_e, chN2_t, chN2_f, aCons_e, aNil_e, eLst_e, eTup_e, eCall_e, eFn_e, eC_e, sTgt_e, tgtN_some, sPar_e, parN_e, sRaise_e, sNil_e, eTab_e, tabN_e, eIndexT_e, idxN_e, endS_rt, endS_nx, endS_ex, view_sh, view_ow, view_ow2, shs_cons, shs_nil, shO_sh, shO_dead, shO_ow, shO_ow2, setR_c, setR_n, un1_e, unT_e, oNone_e, oSome_e, dI_int, fDef, List.append_nil, List.nil_append, List.cons_append, List.replicate_succ, List.replicate_zero, List.length_cons, List.length_nil, List.set_cons_zero, List.set_cons_succ, List.getElem?_cons_zero, List.getElem?_cons_succ, Nat.sub_zero, Nat.reduceSub, Nat.reduceAdd, Nat.reduceLeDiff, if_true, if_false, ite_true, ite_false, Bool.false_eq_true, decide_true, decide_false, Bool.not_true, Bool.not_false, kSub_int, kAdd_int, kLt_int, kLe_int, kGt_int, kGe_int, kEq_int, kNe_int, kMod_int, kEq_pair, kNe_pair, Bool.and_true, Bool.and_false, Bool.true_and, Bool.false_and, last1, rN_int, rg]) (by simp; omega) (fun d hd => elD_un1 (by
          obtain ⟨r, hr, rfl⟩ := List.mem_map.mp hd
          have hr := List.mem_range.mp hr
          have q := kIx_dM (tb_row (f := f) (m := n) hr)
          rw [rowD_eq] at q
          simp only [wipeR, sSeq_e, then_nx, then_rt, then_ex, fin_ok, fin_ex, sSet_e, sOwn_e, sRet_e, sExpr_e, sRetVar_e, retN_sh, retN_ow, retN_ow2, sIf_e, selS_t, selS_f, selE_t, selE_f, stf_f, stf_t, bind_ok, bind_ex, dat_sh, dat_ow, dat_ow2, dat_ex, ofO_some, eVar_e, eOp_e, eUn_e, eIf_e, fB_e, dB_bl, fAnd_e, fOr_e, andT_t, andT_f, andT_x, orT_t, orT_f, orT_x, fNot_e, eAnd_e, eOr_e, andE_t, andE_f, orE_t, orE_f, eNot_e, dN_bl, eCh_e, chN_t, chN_f, eCh3_e, chN2_t, chN2_f, aCons_e, aNil_e, eLst_e, eTup_e, eCall_e, eFn_e, eC_e, sTgt_e, tgtN_some, sPar_e, parN_e, sRaise_e, sNil_e, eTab_e, tabN_e, eIndexT_e, idxN_e, endS_rt, endS_nx, endS_ex, view_sh, view_ow, view_ow2, shs_cons, shs_nil, shO_sh, shO_dead, shO_ow, shO_ow2, setR_c, setR_n, un1_e, unT_e, oNone_e, oSome_e, dI_int, fDef, List.append_nil, List.nil_append, List.cons_append, List.replicate_succ, List.replicate_zero, List.length_cons, List.length_nil, List.set_cons_zero, List.set_cons_succ, List.getElem?_cons_zero, List.getElem?_cons_succ, Nat.sub_zero, Nat.reduceSub, Nat.reduceAdd, Nat.reduceLeDiff, if_true, if_false, ite_true, ite_false, Bool.false_eq_true, decide_true, decide_false, Bool.not_true, Bool.not_false, kSub_int, kAdd_int, kLt_int, kLe_int, kGt_int, kGe_int, kEq_int, kNe_int, kMod_int, kEq_pair, kNe_pair, Bool.and_true, Bool.and_false, Bool.true_and, Bool.false_and, q, kIx_rowD hr]
          rfl))
      rw [this, List.map_map, List.map_map]
      rfl
    simp only [f_sum_along, g_sum_along, lnD, sSeq_e, then_nx, then_rt, then_ex, fin_ok, fin_ex, sSet_e, sOwn_e, sRet_e, sExpr_e, sRetVar_e, retN_sh, retN_ow, retN_ow2, sIf_e, selS_t, selS_f, selE_t, selE_f, stf_f, stf_t, bind_ok, bind_ex, dat_sh, dat_ow, dat_ow2, dat_ex, ofO_some, eVar_e, eOp_e, eUn_e, eIf_e, fB_e, dB_bl, fAnd_e, fOr_e, andT_t, andT_f, andT_x, orT_t, orT_f, orT_x, fNot_e, eAnd_e, eOr_e, andE_t, andE_f, orE_t, orE_f, eNot_e, dN_bl, eCh_e, chN_t, chN_f, eCh3_e, chN2_t, chN2_f, aCons_e, aNil_e, eLst_e, eTup_e, eCall_e, eFn_e, eC_e, sTgt_e, tgtN_some, sPar_e, parN_e, sRaise_e, sNil_e, eTab_e, tabN_e, eIndexT_e, idxN_e, endS_rt, endS_nx, endS_ex, view_sh, view_ow, view_ow2, shs_cons, shs_nil, shO_sh, shO_dead, shO_ow, shO_ow2, setR_c, setR_n, un1_e, unT_e, oNone_e, oSome_e, dI_int, fDef, List.append_nil, List.nil_append, List.cons_append, List.replicate_succ, List.replicate_zero, List.length_cons, List.length_nil, List.set_cons_zero, List.set_cons_succ, List.getElem?_cons_zero, List.getElem?_cons_succ, Nat.sub_zero, Nat.reduceSub, Nat.reduceAdd, Nat.reduceLeDiff, if_true, if_false, ite_true, ite_false, Bool.false_eq_true, decide_true, decide_false, Bool.not_true, Bool.not_false, kSub_int, kAdd_int, kLt_int, kLe_int, kGt_int, kGe_int, kEq_int, kNe_int, kMod_int, kEq_pair, kNe_pair, Bool.and_true, Bool.and_false, Bool.true_and, Bool.false_and, List.map_cons, List.map_nil, kLen_dM, tb_len, s_dr, s_dc, s_dd, hlc, kSum_ints]
  | up =>
    have e : (List.range n).map (lterm (tb n n f) n .up) = (List.range n).map fun c => f (n - 1 - c) c := List.map_congr_left fun c hc => tb_ent (by have := List.mem_range.mp hc; omega) (List.mem_range.mp hc)
    rw [e]
    have hlc : eLc (iR1 (aCons (eOp kAdd (eVar 4) (eC (.int 1))) (aNil))) [5] un1 [5] (eOp kIx (eOp kIx (eVar 0) (eOp kSub (eVar 4) (eVar 5))) (eVar 5)) [.sh (dM (tb n n f)), .sh (.tup [.str "up", .int 0]), .sh (.str "up"), .sh (.int 0), .sh (.int ((n : Int) - 1)), .dead, .dead] = .ok (.ow (((List.range n).map fun c => f (n - 1 - c) c).map .int)) := by
      have := eLc_ok (fI := iR1 (aCons (eOp kAdd (eVar 4) (eC (.int 1))) (aNil))) (is := [5]) (un := un1) (vs := [5]) (fe := eOp kIx (eOp kIx (eVar 0) (eOp kSub (eVar 4) (eVar 5))) (eVar 5)) (ρ := [.sh (dM (tb n n f)), .sh (.tup [.str "up", .int 0]), .sh (.str "up"), .sh (.int 0), .sh (.int ((n : Int) - 1)), .dead, .dead]) (items := (List.range n).map fun (k : Nat) => Da.int (k : Int)) (fun d => match d with | .int s => .int (f (n - 1 - s.toNat) s.toNat) | _ => .non)
        (by simp only [iR1_e, sSeq_e, then_nx, then_rt, then_ex, fin_ok, fin_ex, sSet_e, sOwn_e, sRet_e, sExpr_e, sRetVar_e, retN_sh, retN_ow, retN_ow2, sIf_e, selS_t, selS_f, selE_t, selE_f, stf_f, stf_t, bind_ok, bind_ex, dat_sh, dat_ow, dat_ow2, dat_ex, ofO_some, eVar_e, eOp_e, eUn_e, eIf_e, fB_e, dB_bl, fAnd_e, fOr_e, andT_t, andT_f, andT_x, orT_t, orT_f, orT_x, fNot_e, eAnd_e, eOr_e, andE_t, andE_f, orE_t, orE_f, eNot_e, dN_bl, eCh_e, chN_t, chN_f, eCh3_e, chN2_t, chN2_f, aCons_e, aNil_e, eLst_e, eTup_e, eCall_e, eFn_e, eC_e, sTgt_e, tgtN_some, sPar_e, parN_e, sRaise_e, sNil_e, eTab_e, tabN_e, eIndexT_e, idxN_e, endS_rt, endS_nx, endS_ex, view_sh, view_ow, view_ow2, shs_cons, shs_nil, shO_sh, shO_dead, shO_ow, shO_ow2, setR_c, setR_n, un1_e, unT_e, oNone_e, oSome_e, dI_int, fDef, List.append_nil, List.nil_append, List.cons_append, List.replicate_succ, List.replicate_zero, List.length_cons, List.length_nil, List.set_cons_zero, List.set_cons_succ, List.getElem?_cons_zero, List.getElem?_cons_succ, Nat.sub_zero, Nat.reduceSub, Nat.reduceAdd, Nat.reduceLeDiff, if_true, if_false, ite_true, ite_false, Bool.false_eq_true, decide_true, decide_false, Bool.not_true, Bool.not_false, kSub_int, kAdd_int, kLt_int, kLe_int, kGt_int, kGe_int, kEq_int, kNe_int, kMod_int, kEq_pair, kNe_pair, Bool.and_true, Bool.and_false, Bool.true_and, Bool.false_and, last1, rN_int, rg]) (by simp; omega) (fun d hd => elD_un1 (by
          obtain ⟨r, hr, rfl⟩ := List.mem_map.mp hd
          have hr := List.mem_range.mp hr
          have q := kIx_dM (tb_row (f := f) (m := n) (show n - 1 - r < n by omega))
          rw [rowD_eq] at q
          have ei : (n : Int) - 1 - (r : Int) = ((n - 1 - r : Nat) : Int) := by omega
          simp only [wipeR, sSeq_e, then_nx, then_rt, then_ex, fin_ok, fin_ex, sSet_e, sOwn_e, sRet_e, sExpr_e, sRetVar_e, retN_sh, retN_ow, retN_ow2, sIf_e, selS_t, selS_f, selE_t, selE_f, stf_f, stf_t, bind_ok, bind_ex, dat_sh, dat_ow, dat_ow2, dat_ex, ofO_some, eVar_e, eOp_e, eUn_e, eIf_e, fB_e, dB_bl, fAnd_e, fOr_e, andT_t, andT_f, andT_x, orT_t, orT_f, orT_x, fNot_e, eAnd_e, eOr_e, andE_t, andE_f, orE_t, orE_f, eNot_e, dN_bl, eCh_e, chN_t, chN_f, eCh3_e, chN2_t, chN2_f, aCons_e, aNil_e, eLst_e, eTup_e, eCall_e, eFn_e, eC_e, sTgt_e, tgtN_some, sPar_e, parN_e, sRaise_e, sNil_e, eTab_e, tabN_e, eIndexT_e, idxN_e, endS_rt, endS_nx, endS_ex, view_sh, view_ow, view_ow2, shs_cons, shs_nil, shO_sh, shO_dead, shO_ow, shO_ow2, setR_c, setR_n, un1_e, unT_e, oNone_e, oSome_e, dI_int, fDef, List.append_nil, List.nil_append, List.cons_append, List.replicate_succ, List.replicate_zero, List.length_cons, List.length_nil, List.set_cons_zero, List.set_cons_succ, List.getElem?_cons_zero, List.getElem?_cons_succ, Nat.sub_zero, Nat.reduceSub, Nat.reduceAdd, Nat.reduceLeDiff, if_true, if_false, ite_true, ite_false, Bool.false_eq_true, decide_true, decide_false, Bool.not_true, Bool.not_false, kSub_int, kAdd_int, kLt_int, kLe_int, kGt_int, kGe_int, kEq_int, kNe_int, kMod_int, kEq_pair, kNe_pair, Bool.and_true, Bool.and_false, Bool.true_and, Bool.false_and, ei, q, kIx_rowD hr]
          rfl))
      rw [this, List.map_map, List.map_map]
      rfl
    simp only [f_sum_along, g_sum_along, lnD, sSeq_e, then_nx, then_rt, then_ex, fin_ok, fin_ex, sSet_e, sOwn_e, sRet_e, sExpr_e, sRetVar_e, retN_sh, retN_ow, retN_ow2, sIf_e, selS_t, selS_f, selE_t, selE_f, stf_f, stf_t, bind_ok, bind_ex, dat_sh, dat_ow, dat_ow2, dat_ex, ofO_some, eVar_e, eOp_e, eUn_e, eIf_e, fB_e, dB_bl, fAnd_e, fOr_e, andT_t, andT_f, andT_x, orT_t, orT_f, orT_x, fNot_e, eAnd_e, eOr_e, andE_t, andE_f, orE_t, orE_f, eNot_e, dN_bl, eCh_e, chN_t, chN_f, eCh3_e, chN2_t, chN2_f, aCons_e, aNil_e, eLst_e, eTup_e, eCall_e, eFn_e, eC_e, sTgt_e, tgtN_some, sPar_e, parN_e, sRaise_e, sNil_e, eTab_e, tabN_e, eIndexT_e, idxN_e, endS_rt, endS_nx, endS_ex, view_sh, view_ow, view_ow2, shs_cons, shs_nil, shO_sh, shO_dead, shO_ow, shO_ow2, setR_c, setR_n, un1_e, unT_e, oNone_e, oSome_e, dI_int, fDef, List.append_nil, List.nil_append, List.cons_append, List.replicate_succ, List.replicate_zero, List.length_cons, List.length_nil, List.set_cons_zero, List.set_cons_succ, List.getElem?_cons_zero, List.getElem?_cons_succ, Nat.sub_zero, Nat.reduceSub, Nat.reduceAdd, Nat.reduceLeDiff, if_true, if_false, ite_true, ite_false, Bool.false_eq_true, decide_true, decide_false, Bool.not_true, Bool.not_false, kSub_int, kAdd_int, kLt_int, kLe_int, kGt_int, kGe_int, kEq_int, kNe_int, kMod_int, kEq_pair, kNe_pair, Bool.and_true, Bool.and_false, Bool.true_and, Bool.false_and, List.map_cons, List.map_nil, kLen_dM, tb_len, s_ur, s_uc, s_ud, hlc, kSum_ints]
theorem row0_mem {n : Nat} (h0 : 0 < n) : Ln.row 0 ∈ lns n := by
  unfold lns
  exact List.mem_append_left _ (List.mem_append_left _ (List.mem_map.mpr ⟨0, List.mem_range.mpr h0, rfl⟩))
/-- what is told -/
theorem ev_told {xss : List (List Int)} {n : Nat} (h : Sq xss n) (h0 : 0 < n) (h1 : n ≤ 10000) :
    ((∀ l ∈ lns n, lsum xss n l = lsum xss n (.row 0)) ∧ f_told [dM xss] = .ok (.sh (.even (.int (lsum xss n (.row 0)))))) ∨ ∃ l ∈ lns n, lsum xss n l ≠ lsum xss n (.row 0) ∧ f_told [dM xss] = .ok (.sh (.unl (lnD (.row 0)) (lnD l))) := by
  have ha := ev_asked_square h h0 h1
  have hr0 := ev_sum_along h h0 h1 (row0_mem h0)
  have r0 : lnD (.row 0) = .tup [.str "row", .int 0] := rfl
  rw [r0] at hr0
  generalize hT : lsum xss n (.row 0) = T at *
  have loop : ∀ (ls : List Ln), (∀ l ∈ ls, l ∈ lns n) → ∀ x3 : Sl, ((∀ l ∈ ls, lsum xss n l = T) ∧ ∃ y3, loopF [3] un1 (sIf (fB (eOp kNe (eFn f_sum_along (aCons (eVar 0) (aCons (eVar 3) (aNil)))) (eVar 2)))
    (sRet false (eUnl (aCons (eVar 1) (aCons (eVar 3) (aNil))))) (sNil)) (ls.map lnD) [.sh (dM xss), .sh (.tup [.str "row", .int 0]), .sh (.int T), x3] = .nx [.sh (dM xss), .sh (.tup [.str "row", .int 0]), .sh (.int T), y3]) ∨
      ∃ l ∈ ls, lsum xss n l ≠ T ∧ loopF [3] un1 (sIf (fB (eOp kNe (eFn f_sum_along (aCons (eVar 0) (aCons (eVar 3) (aNil)))) (eVar 2)))
    (sRet false (eUnl (aCons (eVar 1) (aCons (eVar 3) (aNil))))) (sNil)) (ls.map lnD) [.sh (dM xss), .sh (.tup [.str "row", .int 0]), .sh (.int T), x3] = .rt (.sh (.unl (.tup [.str "row", .int 0]) (lnD l))) := by
    intro ls
    induction ls with
    | nil => intro _ x3; exact .inl ⟨fun l hl => (by cases hl), x3, rfl⟩
    | cons a ls ih =>
      intro hm x3
      have hs := ev_sum_along h h0 h1 (hm a List.mem_cons_self)
      by_cases e : lsum xss n a = T
      · have st : ∀ rest, loopF [3] un1 (sIf (fB (eOp kNe (eFn f_sum_along (aCons (eVar 0) (aCons (eVar 3) (aNil)))) (eVar 2)))
    (sRet false (eUnl (aCons (eVar 1) (aCons (eVar 3) (aNil))))) (sNil)) (lnD a :: rest) [.sh (dM xss), .sh (.tup [.str "row", .int 0]), .sh (.int T), x3] = loopF [3] un1 (sIf (fB (eOp kNe (eFn f_sum_along (aCons (eVar 0) (aCons (eVar 3) (aNil)))) (eVar 2)))
    (sRet false (eUnl (aCons (eVar 1) (aCons (eVar 3) (aNil))))) (sNil)) rest [.sh (dM xss), .sh (.tup [.str "row", .int 0]), .sh (.int T), .sh (lnD a)] := fun rest => by
          simp only [loop_un1, sSeq_e, then_nx, then_rt, then_ex, fin_ok, fin_ex, sSet_e, sOwn_e, sRet_e, sExpr_e, sRetVar_e, retN_sh, retN_ow, retN_ow2, sIf_e, selS_t, selS_f, selE_t, selE_f, stf_f, stf_t, bind_ok, bind_ex, dat_sh, dat_ow, dat_ow2, dat_ex, ofO_some, eVar_e, eOp_e, eUn_e, eIf_e, fB_e, dB_bl, fAnd_e, fOr_e, andT_t, andT_f, andT_x, orT_t, orT_f, orT_x, fNot_e, eAnd_e, eOr_e, andE_t, andE_f, orE_t, orE_f, eNot_e, dN_bl, eCh_e, chN_t, chN_f, eCh3_e, chN2_t, chN2_f, aCons_e, aNil_e, eLst_e, eTup_e, eCall_e, eFn_e, eC_e, sTgt_e, tgtN_some, sPar_e, parN_e, sRaise_e, sNil_e, eTab_e, tabN_e, eIndexT_e, idxN_e, endS_rt, endS_nx, endS_ex, view_sh, view_ow, view_ow2, shs_cons, shs_nil, shO_sh, shO_dead, shO_ow, shO_ow2, setR_c, setR_n, un1_e, unT_e, oNone_e, oSome_e, dI_int, fDef, List.append_nil, List.nil_append, List.cons_append, List.replicate_succ, List.replicate_zero, List.length_cons, List.length_nil, List.set_cons_zero, List.set_cons_succ, List.getElem?_cons_zero, List.getElem?_cons_succ, Nat.sub_zero, Nat.reduceSub, Nat.reduceAdd, Nat.reduceLeDiff, if_true, if_false, ite_true, ite_false, Bool.false_eq_true, decide_true, decide_false, Bool.not_true, Bool.not_false, kSub_int, kAdd_int, kLt_int, kLe_int, kGt_int, kGe_int, kEq_int, kNe_int, kMod_int, kEq_pair, kNe_pair, Bool.and_true, Bool.and_false, Bool.true_and, Bool.false_and, hs, e, beq_self_eq_true, loopN_nx]
        rcases ih (fun l hl => hm l (List.mem_cons_of_mem _ hl)) (.sh (lnD a)) with ⟨q1, y3, q2⟩ | ⟨l, q1, q2, q3⟩
        · refine .inl ⟨fun l hl => ?_, y3, by rw [List.map_cons, st]; exact q2⟩
          rcases List.mem_cons.mp hl with z | z
          · rw [z]; exact e
          · exact q1 l z
        · exact .inr ⟨l, List.mem_cons_of_mem _ q1, q2, by rw [List.map_cons, st]; exact q3⟩
      · refine .inr ⟨a, List.mem_cons_self, e, ?_⟩
        rw [List.map_cons]
        have u : eUnl (aCons (eVar 1) (aCons (eVar 3) (aNil))) [.sh (dM xss), .sh (.tup [.str "row", .int 0]), .sh (.int T), .sh (lnD a)] = .ok (.sh (.unl (.tup [.str "row", .int 0]) (lnD a))) := rfl
        simp only [loop_un1, sSeq_e, then_nx, then_rt, then_ex, fin_ok, fin_ex, sSet_e, sOwn_e, sRet_e, sExpr_e, sRetVar_e, retN_sh, retN_ow, retN_ow2, sIf_e, selS_t, selS_f, selE_t, selE_f, stf_f, stf_t, bind_ok, bind_ex, dat_sh, dat_ow, dat_ow2, dat_ex, ofO_some, eVar_e, eOp_e, eUn_e, eIf_e, fB_e, dB_bl, fAnd_e, fOr_e, andT_t, andT_f, andT_x, orT_t, orT_f, orT_x, fNot_e, eAnd_e, eOr_e, andE_t, andE_f, orE_t, orE_f, eNot_e, dN_bl, eCh_e, chN_t, chN_f, eCh3_e, chN2_t, chN2_f, aCons_e, aNil_e, eLst_e, eTup_e, eCall_e, eFn_e, eC_e, sTgt_e, tgtN_some, sPar_e, parN_e, sRaise_e, sNil_e, eTab_e, tabN_e, eIndexT_e, idxN_e, endS_rt, endS_nx, endS_ex, view_sh, view_ow, view_ow2, shs_cons, shs_nil, shO_sh, shO_dead, shO_ow, shO_ow2, setR_c, setR_n, un1_e, unT_e, oNone_e, oSome_e, dI_int, fDef, List.append_nil, List.nil_append, List.cons_append, List.replicate_succ, List.replicate_zero, List.length_cons, List.length_nil, List.set_cons_zero, List.set_cons_succ, List.getElem?_cons_zero, List.getElem?_cons_succ, Nat.sub_zero, Nat.reduceSub, Nat.reduceAdd, Nat.reduceLeDiff, if_true, if_false, ite_true, ite_false, Bool.false_eq_true, decide_true, decide_false, Bool.not_true, Bool.not_false, kSub_int, kAdd_int, kLt_int, kLe_int, kGt_int, kGe_int, kEq_int, kNe_int, kMod_int, kEq_pair, kNe_pair, Bool.and_true, Bool.and_false, Bool.true_and, Bool.false_and, hs, bne_i e, u, loopN_rt]
  have ev : ∀ x3 : Sl, eEven (aCons (eVar 2) (aNil)) [.sh (dM xss), .sh (.tup [.str "row", .int 0]), .sh (.int T), x3] = .ok (.sh (.even (.int T))) := fun _ => rfl
  rcases loop (lns n) (fun l hl => hl) .dead with ⟨q1, y3, q2⟩ | ⟨l, q1, q2, q3⟩
  · refine .inl ⟨q1, ?_⟩
    simp only [f_told, g_told, sSeq_e, then_nx, then_rt, then_ex, fin_ok, fin_ex, sSet_e, sOwn_e, sRet_e, sExpr_e, sRetVar_e, retN_sh, retN_ow, retN_ow2, sIf_e, selS_t, selS_f, selE_t, selE_f, stf_f, stf_t, bind_ok, bind_ex, dat_sh, dat_ow, dat_ow2, dat_ex, ofO_some, eVar_e, eOp_e, eUn_e, eIf_e, fB_e, dB_bl, fAnd_e, fOr_e, andT_t, andT_f, andT_x, orT_t, orT_f, orT_x, fNot_e, eAnd_e, eOr_e, andE_t, andE_f, orE_t, orE_f, eNot_e, dN_bl, eCh_e, chN_t, chN_f, eCh3_e, chN2_t, chN2_f, aCons_e, aNil_e, eLst_e, eTup_e, eCall_e, eFn_e, eC_e, sTgt_e, tgtN_some, sPar_e, parN_e, sRaise_e, sNil_e, eTab_e, tabN_e, eIndexT_e, idxN_e, endS_rt, endS_nx, endS_ex, view_sh, view_ow, view_ow2, shs_cons, shs_nil, shO_sh, shO_dead, shO_ow, shO_ow2, setR_c, setR_n, un1_e, unT_e, oNone_e, oSome_e, dI_int, fDef, List.append_nil, List.nil_append, List.cons_append, List.replicate_succ, List.replicate_zero, List.length_cons, List.length_nil, List.set_cons_zero, List.set_cons_succ, List.getElem?_cons_zero, List.getElem?_cons_succ, Nat.sub_zero, Nat.reduceSub, Nat.reduceAdd, Nat.reduceLeDiff, if_true, if_false, ite_true, ite_false, Bool.false_eq_true, decide_true, decide_false, Bool.not_true, Bool.not_false, kSub_int, kAdd_int, kLt_int, kLe_int, kGt_int, kGe_int, kEq_int, kNe_int, kMod_int, kEq_pair, kNe_pair, Bool.and_true, Bool.and_false, Bool.true_and, Bool.false_and, List.map_cons, List.map_nil, ha, hr0, sFor_e, iL_e, kLen_dM, h.1, ev_lines h1, asL_lst, q2, ev]
  · refine .inr ⟨l, q1, q2, ?_⟩
    simp only [f_told, g_told, sSeq_e, then_nx, then_rt, then_ex, fin_ok, fin_ex, sSet_e, sOwn_e, sRet_e, sExpr_e, sRetVar_e, retN_sh, retN_ow, retN_ow2, sIf_e, selS_t, selS_f, selE_t, selE_f, stf_f, stf_t, bind_ok, bind_ex, dat_sh, dat_ow, dat_ow2, dat_ex, ofO_some, eVar_e, eOp_e, eUn_e, eIf_e, fB_e, dB_bl, fAnd_e, fOr_e, andT_t, andT_f, andT_x, orT_t, orT_f, orT_x, fNot_e, eAnd_e, eOr_e, andE_t, andE_f, orE_t, orE_f, eNot_e, dN_bl, eCh_e, chN_t, chN_f, eCh3_e, chN2_t, chN2_f, aCons_e, aNil_e, eLst_e, eTup_e, eCall_e, eFn_e, eC_e, sTgt_e, tgtN_some, sPar_e, parN_e, sRaise_e, sNil_e, eTab_e, tabN_e, eIndexT_e, idxN_e, endS_rt, endS_nx, endS_ex, view_sh, view_ow, view_ow2, shs_cons, shs_nil, shO_sh, shO_dead, shO_ow, shO_ow2, setR_c, setR_n, un1_e, unT_e, oNone_e, oSome_e, dI_int, fDef, List.append_nil, List.nil_append, List.cons_append, List.replicate_succ, List.replicate_zero, List.length_cons, List.length_nil, List.set_cons_zero, List.set_cons_succ, List.getElem?_cons_zero, List.getElem?_cons_succ, Nat.sub_zero, Nat.reduceSub, Nat.reduceAdd, Nat.reduceLeDiff, if_true, if_false, ite_true, ite_false, Bool.false_eq_true, decide_true, decide_false, Bool.not_true, Bool.not_false, kSub_int, kAdd_int, kLt_int, kLe_int, kGt_int, kGe_int, kEq_int, kNe_int, kMod_int, kEq_pair, kNe_pair, Bool.and_true, Bool.and_false, Bool.true_and, Bool.false_and, List.map_cons, List.map_nil, ha, hr0, sFor_e, iL_e, kLen_dM, h.1, ev_lines h1, asL_lst, q3, r0]

end K05

namespace K05
open PySem PySem.Spec PyProof.Rows L2 G6
def three (a b c : Int) : List (List Int) := [[a + b, a - b - c, a + c], [a - b + c, a, a + b - c], [a - c, a + b + c, a - b]]
theorem three_sq {a b c : Int} : Sq (three a b c) 3 := by
  refine ⟨rfl, fun r hr => ?_⟩
  unfold three at hr
  simp only [List.mem_cons, List.not_mem_nil, or_false] at hr
  rcases hr with rfl | rfl | rfl <;> rfl
theorem ev_law_three {a b c : Int} : f__law_three [.int a, .int b, .int c] = .ok (.ow ((three a b c).map fun r => .lst (r.map .int))) := by
  simp only [f__law_three, g__law_three, three, sSeq_e, then_nx, then_rt, then_ex, fin_ok, fin_ex, sSet_e, sOwn_e, sRet_e, sExpr_e, sRetVar_e, retN_sh, retN_ow, retN_ow2, sIf_e, selS_t, selS_f, selE_t, selE_f, stf_f, stf_t, bind_ok, bind_ex, dat_sh, dat_ow, dat_ow2, dat_ex, ofO_some, eVar_e, eOp_e, eUn_e, eIf_e, fB_e, dB_bl, fAnd_e, fOr_e, andT_t, andT_f, andT_x, orT_t, orT_f, orT_x, fNot_e, eAnd_e, eOr_e, andE_t, andE_f, orE_t, orE_f, eNot_e, dN_bl, eCh_e, chN_t, chN_f, eCh3_e, chN2_t, chN2_f, aCons_e, aNil_e, eLst_e, eTup_e, eCall_e, eFn_e, eC_e, sTgt_e, tgtN_some, sPar_e, parN_e, sRaise_e, sNil_e, eTab_e, tabN_e, eIndexT_e, idxN_e, endS_rt, endS_nx, endS_ex, view_sh, view_ow, view_ow2, shs_cons, shs_nil, shO_sh, shO_dead, shO_ow, shO_ow2, setR_c, setR_n, un1_e, unT_e, oNone_e, oSome_e, dI_int, fDef, List.map_cons, List.map_nil, List.append_nil, List.nil_append, List.cons_append, List.replicate_succ, List.replicate_zero, List.length_cons, List.length_nil, List.set_cons_zero, List.set_cons_succ, List.getElem?_cons_zero, List.getElem?_cons_succ, Nat.sub_zero, Nat.reduceSub, Nat.reduceAdd, Nat.reduceLeDiff, if_true, if_false, ite_true, ite_false, Bool.false_eq_true, decide_true, decide_false, Bool.not_true, Bool.not_false, kSub_int, kAdd_int, kLt_int, kLe_int, kGt_int, kGe_int, kEq_int, kNe_int, kMod_int, kEq_pair, kNe_pair, Bool.and_true, Bool.and_false, Bool.true_and, Bool.false_and]
theorem told_even {xss : List (List Int)} {n : Nat} {s : Int} (h : Sq xss n) (h0 : 0 < n) (h1 : n ≤ 10000) (hs : ∀ l ∈ lns n, lsum xss n l = s) : f_told [dM xss] = .ok (.sh (.even (.int s))) := by
  have h2 := hs _ (row0_mem h0)
  rcases ev_told h h0 h1 with ⟨_, q⟩ | ⟨l, q1, q2, q3⟩
  · rw [q, h2]
  · exact absurd ((hs l q1).trans h2.symm) q2
theorem lsum_tb {n : Nat} {F : Nat → Nat → Int} {s : Int} (hr : ∀ k, k < n → psum (tb n n F) n (.row k) n = s) (hc : ∀ k, k < n → psum (tb n n F) n (.col k) n = s) (hd : psum (tb n n F) n .down n = s) (hu : psum (tb n n F) n .up n = s) : ∀ l ∈ lns n, lsum (tb n n F) n l = s := by
  intro l hl
  cases l with
  | row k => exact hr k (row_mem hl)
  | col k => exact hc k (col_mem hl)
  | down => exact hd
  | up => exact hu
theorem sum3 {F : Nat → Nat → Int} {s : Int} (a0 : F 0 0 + F 0 1 + F 0 2 = s) (a1 : F 1 0 + F 1 1 + F 1 2 = s) (a2 : F 2 0 + F 2 1 + F 2 2 = s) (b0 : F 0 0 + F 1 0 + F 2 0 = s) (b1 : F 0 1 + F 1 1 + F 2 1 = s) (b2 : F 0 2 + F 1 2 + F 2 2 = s) (d : F 0 0 + F 1 1 + F 2 2 = s) (u : F 2 0 + F 1 1 + F 0 2 = s) :
    ∀ l ∈ lns 3, lsum (tb 3 3 F) 3 l = s := by
  have e : ∀ i j, i < 3 → j < 3 → ent (tb 3 3 F) i j = F i j := fun i j hi hj => tb_ent hi hj
  refine lsum_tb (fun k hk => ?_) (fun k hk => ?_) ?_ ?_
  · have : k = 0 ∨ k = 1 ∨ k = 2 := by omega
    rcases this with rfl | rfl | rfl
    · show 0 + ent (tb 3 3 F) 0 0 + ent (tb 3 3 F) 0 1 + ent (tb 3 3 F) 0 2 = s
      rw [e 0 0 (by decide) (by decide), e 0 1 (by decide) (by decide), e 0 2 (by decide) (by decide)]; omega
    · show 0 + ent (tb 3 3 F) 1 0 + ent (tb 3 3 F) 1 1 + ent (tb 3 3 F) 1 2 = s
      rw [e 1 0 (by decide) (by decide), e 1 1 (by decide) (by decide), e 1 2 (by decide) (by decide)]; omega
    · show 0 + ent (tb 3 3 F) 2 0 + ent (tb 3 3 F) 2 1 + ent (tb 3 3 F) 2 2 = s
      rw [e 2 0 (by decide) (by decide), e 2 1 (by decide) (by decide), e 2 2 (by decide) (by decide)]; omega
  · have : k = 0 ∨ k = 1 ∨ k = 2 := by omega
    rcases this with rfl | rfl | rfl
    · show 0 + ent (tb 3 3 F) 0 0 + ent (tb 3 3 F) 1 0 + ent (tb 3 3 F) 2 0 = s
      rw [e 0 0 (by decide) (by decide), e 1 0 (by decide) (by decide), e 2 0 (by decide) (by decide)]; omega
    · show 0 + ent (tb 3 3 F) 0 1 + ent (tb 3 3 F) 1 1 + ent (tb 3 3 F) 2 1 = s
      rw [e 0 1 (by decide) (by decide), e 1 1 (by decide) (by decide), e 2 1 (by decide) (by decide)]; omega
    · show 0 + ent (tb 3 3 F) 0 2 + ent (tb 3 3 F) 1 2 + ent (tb 3 3 F) 2 2 = s
      rw [e 0 2 (by decide) (by decide), e 1 2 (by decide) (by decide), e 2 2 (by decide) (by decide)]; omega
  · show 0 + ent (tb 3 3 F) 0 0 + ent (tb 3 3 F) 1 1 + ent (tb 3 3 F) 2 2 = s
    rw [e 0 0 (by decide) (by decide), e 1 1 (by decide) (by decide), e 2 2 (by decide) (by decide)]; omega
  · show 0 + ent (tb 3 3 F) 2 0 + ent (tb 3 3 F) 1 1 + ent (tb 3 3 F) 0 2 = s
    rw [e 2 0 (by decide) (by decide), e 1 1 (by decide) (by decide), e 0 2 (by decide) (by decide)]; omega
structure Ev3 (F : Nat → Nat → Int) (s : Int) : Prop where
  a0 : F 0 0 + F 0 1 + F 0 2 = s
  a1 : F 1 0 + F 1 1 + F 1 2 = s
  a2 : F 2 0 + F 2 1 + F 2 2 = s
  b0 : F 0 0 + F 1 0 + F 2 0 = s
  b1 : F 0 1 + F 1 1 + F 2 1 = s
  b2 : F 0 2 + F 1 2 + F 2 2 = s
  d : F 0 0 + F 1 1 + F 2 2 = s
  u : F 2 0 + F 1 1 + F 0 2 = s
theorem ev3_three {a b c : Int} : Ev3 (ent (three a b c)) (3 * a) := by
  constructor
  · show (a + b) + (a - b - c) + (a + c) = 3 * a; omega
  · show (a - b + c) + a + (a + b - c) = 3 * a; omega
  · show (a - c) + (a + b + c) + (a - b) = 3 * a; omega
  · show (a + b) + (a - b + c) + (a - c) = 3 * a; omega
  · show (a - b - c) + a + (a + b + c) = 3 * a; omega
  · show (a + c) + (a + b - c) + (a - b) = 3 * a; omega
  · show (a + b) + a + (a - b) = 3 * a; omega
  · show (a - c) + a + (a + c) = 3 * a; omega
theorem ev3_sum {F : Nat → Nat → Int} {s : Int} (h : Ev3 F s) : ∀ l ∈ lns 3, lsum (tb 3 3 F) 3 l = s := sum3 h.a0 h.a1 h.a2 h.b0 h.b1 h.b2 h.d h.u

open Classical in
/-- a square by its places -/
theorem grid_ex {ρ : Rho} {i j N : Nat} {fs : Rho → Rs (List Da)} {fe : Sem1} (hN : N ≤ 10000) (hI : iR1 fs ρ = .ok ((List.range N).map fun (k : Nat) => Da.int (k : Int)))
    (hJ : ∀ r : Nat, r < N → iR1 fs ((wipeR ρ [i]).set i (.sh (.int (r : Int)))) = .ok ((List.range N).map fun (k : Nat) => Da.int (k : Int)))
    (he : ∀ r c : Nat, r < N → c < N → ∃ z : Int, dat (fe ((wipeR ((wipeR ρ [i]).set i (.sh (.int (r : Int)))) [j]).set j (.sh (.int (c : Int))))) = .ok (.int z)) :
    ∃ F : Nat → Nat → Int, eLc2 (iR1 fs) [i] un1 [i] (eLc (iR1 fs) [j] un1 [j] fe) ρ = .ok (.ow2 (dD (tb N N F))) := by
  let F : Nat → Nat → Int := fun r c => if h : r < N ∧ c < N then Classical.choose (he r c h.1 h.2) else 0
  have hF : ∀ r c, (h1 : r < N) → (h2 : c < N) → dat (fe ((wipeR ((wipeR ρ [i]).set i (.sh (.int (r : Int)))) [j]).set j (.sh (.int (c : Int))))) = .ok (.int (F r c)) := fun r c h1 h2 => by
    have : F r c = Classical.choose (he r c h1 h2) := dif_pos ⟨h1, h2⟩
    rw [this]
    exact Classical.choose_spec (he r c h1 h2)
  refine ⟨F, ?_⟩
  have row : ∀ r : Nat, r < N → eLc (iR1 fs) [j] un1 [j] fe ((wipeR ρ [i]).set i (.sh (.int (r : Int)))) = .ok (.ow ((List.range N).map fun c => Da.int (F r c))) := fun r hr => by
    have := eLc_ok (is := [j]) (un := un1) (vs := [j]) (fe := fe) (fun d => match d with | .int c => .int (F r c.toNat) | _ => .non) (hJ r hr) (by simp; omega) (fun d hd => elD_un1 (by
      obtain ⟨c, hc, rfl⟩ := List.mem_map.mp hd
      rw [hF r c hr (List.mem_range.mp hc)]
      rfl))
    rw [this, List.map_map]
    rfl
  have := eLc2_ok (is := [i]) (un := un1) (vs := [i]) (fe := eLc (iR1 fs) [j] un1 [j] fe) (fun d => match d with | .int r => (List.range N).map fun c => Da.int (F r.toNat c) | _ => []) hI (by simp; omega) (fun d hd => elO_un1 (by
    obtain ⟨r, hr, rfl⟩ := List.mem_map.mp hd
    rw [row r (List.mem_range.mp hr)]
    rfl))
  rw [this, dD_tb', List.map_map]
  rfl
theorem same_d {ρ : Rho} {i N : Nat} {f1 f2 : Sem1} {x : Int} (hN : N ≤ 1000) (hI : iR1 (aCons f2 (aNil)) ρ = .ok ((List.range N).map fun (k : Nat) => Da.int (k : Int)))
    (h1 : ∀ r : Nat, r < N → dat (f1 ((wipeR ρ [i]).set i (.sh (.int (r : Int))))) = .ok (.int x)) (h2 : ∀ r : Nat, r < N → dat (f2 ((wipeR ρ [i]).set i (.sh (.int (r : Int))))) = .ok (.int (N : Int))) :
    eLc2 (iR1 (aCons f2 (aNil))) [i] un1 [i] (eOp kRep (eLst (aCons f1 (aNil))) f2) ρ = .ok (.ow2 (dD (tb N N fun _ _ => x))) := by
  have := eLc2_ok (is := [i]) (un := un1) (vs := [i]) (fe := eOp kRep (eLst (aCons f1 (aNil))) f2) (fun d => List.replicate N (Da.int x)) hI (by simp; omega) (fun d hd => elO_un1 (by
    obtain ⟨r, hr, rfl⟩ := List.mem_map.mp hd
    have hr := List.mem_range.mp hr
    simp only [eOp_e, eLst_e, aCons_e, aNil_e, h1 r hr, h2 r hr, bind_ok, List.length_cons, List.length_nil, dat_ow, Nat.reduceAdd, Nat.reduceLeDiff, if_true, kRep_ok hN, ofO_some]))
  rw [this, dD_tb', List.map_map]
  congr 2
  refine List.map_congr_left fun r _ => ?_
  exact (map_const_range (Da.int x) N).symm

section
variable {xss : List (List Int)} {n : Nat}
theorem sq_rev (h : Sq xss n) : Sq xss.reverse n := ⟨by rw [List.length_reverse]; exact h.1, fun r hr => h.2 r (List.mem_reverse.mp hr)⟩
theorem sq_mir (h : Sq xss n) : Sq (xss.map List.reverse) n := ⟨by rw [List.length_map]; exact h.1, fun r hr => by
  obtain ⟨q, hq, rfl⟩ := List.mem_map.mp hr
  rw [List.length_reverse]; exact h.2 q hq⟩
theorem sq_less (h : Sq xss n) : Sq ((xss.drop 1).map (List.drop 1)) (n - 1) := ⟨by rw [List.length_map, List.length_drop, h.1], fun r hr => by
  obtain ⟨q, hq, rfl⟩ := List.mem_map.mp hr
  rw [List.length_drop, h.2 q (List.mem_of_mem_drop hq)]⟩
theorem kRev_d : kRev (dM xss) = some (.ow (xss.reverse.map fun r => Da.lst (r.map .int))) := by
  unfold kRev
  rw [asL_dM]
  show some (Sl.ow ((xss.map fun r => Da.lst (r.map .int)).reverse)) = _
  rw [List.map_reverse]
theorem kRev_row {r : List Int} : kRev (.lst (r.map .int)) = some (.ow (r.reverse.map .int)) := by
  show some (Sl.ow ((r.map Da.int).reverse)) = _
  rw [List.map_reverse]
theorem copy_d {v j : Nat} {ρ : Rho} (hn : xss.length ≤ 10000) (h0 : dat (eVar v ρ) = .ok (dM xss)) (hj : ∀ d : Da, eVar j ((wipeR ρ [j]).set j (.sh d)) = .ok (.sh d)) : eLc2 (iL asL (eVar v)) [j] un1 [j] (eCall kList (aCons (eVar j) (aNil))) ρ = .ok (.ow2 (dD xss)) := by
  have := eLc2_ok (fI := iL asL (eVar v)) (is := [j]) (un := un1) (vs := [j]) (fe := eCall kList (aCons (eVar j) (aNil))) (ρ := ρ) (items := xss.map fun r => Da.lst (r.map .int)) (fun d => match d with | .lst ys => ys | _ => [])
    (by rw [iL_e, h0, bind_ok, asL_dM, ofO_some]) (by simp; omega) (fun d hd => elO_un1 (by
      obtain ⟨r, hr, rfl⟩ := List.mem_map.mp hd
      simp only [eCall_e, aCons_e, aNil_e, hj, dat_sh, bind_ok, kList_lst, ofO_some]))
  rw [this, List.map_map]
  rfl
theorem mir_d {v j : Nat} {ρ : Rho} (hn : xss.length ≤ 10000) (h0 : dat (eVar v ρ) = .ok (dM xss)) (hj : ∀ d : Da, eVar j ((wipeR ρ [j]).set j (.sh d)) = .ok (.sh d)) : eLc2 (iL asL (eVar v)) [j] un1 [j] (eUn kRev (eVar j)) ρ = .ok (.ow2 (dD (xss.map List.reverse))) := by
  have := eLc2_ok (fI := iL asL (eVar v)) (is := [j]) (un := un1) (vs := [j]) (fe := eUn kRev (eVar j)) (ρ := ρ) (items := xss.map fun r => Da.lst (r.map .int)) (fun d => match d with | .lst ys => ys.reverse | _ => [])
    (by rw [iL_e, h0, bind_ok, asL_dM, ofO_some]) (by simp; omega) (fun d hd => elO_un1 (by
      obtain ⟨r, hr, rfl⟩ := List.mem_map.mp hd
      simp only [eUn_e, hj, dat_sh, bind_ok, kRev_row, ofO_some, List.map_reverse]))
  rw [this, List.map_map]
  unfold dD
  rw [List.map_map]
  congr 2
  refine List.map_congr_left fun r _ => ?_
  exact (List.map_reverse ..).symm
end

theorem lenSet_all {ns : List Int} {x : Int} (h : ∀ z ∈ ns, z = x) (hne : ns ≠ []) : lenSet ns = 1 := by
  have hv : ∀ i, i < ns.length → ns.getD i 0 = x := fun i hi => by
    rw [List.getD_eq_getElem?_getD, List.getElem?_eq_getElem hi]
    exact h _ (List.getElem_mem hi)
  have fm : ∀ i, 0 < i → i ≤ ns.length → firstMet (fun i => ns.getD i 0) i = [x] := by
    intro i
    induction i with
    | zero => intro h0; omega
    | succ i ih =>
      intro _ hi
      rw [firstMet_succ]
      have hx : ns.getD i 0 = x := hv i (by omega)
      cases i with
      | zero =>
        rw [firstMet_zero]
        show step_dedup [] (ns.getD 0 0) = [x]
        rw [hx]
        rfl
      | succ j =>
        rw [ih (by omega) (by omega)]
        show step_dedup [x] (ns.getD (j + 1) 0) = [x]
        rw [hx]
        unfold step_dedup
        simp
  unfold lenSet
  have hl : 0 < ns.length := List.length_pos_iff.mpr hne
  rw [fm ns.length hl (Nat.le_refl _)]
  rfl
theorem kLenSet_ints {ns : List Int} (h : ns.length ≤ 4000) : kLenSet (.lst (ns.map .int)) = some (.sh (.int ((lenSet ns : Nat) : Int))) := by
  unfold kLenSet
  simp only [asL, Option.bind, asInts_ints, h, if_true]
theorem sTry_ex {i : Nat} {cs : List Str} {g : SemS} {h : Str → SemS} {ρ ρ' : Rho} {c : Str} {s : Sl} (h1 : g ρ = .ex c ρ') (h2 : cs.contains c = true) (h3 : h c (ρ'.set i (.sh .err)) = .rt s) (h4 : flatS s = true) : sTry i cs g h ρ = .rt s := by
  unfold sTry
  rw [h1]
  dsimp only
  rw [if_pos h2, h3]
  dsimp only
  rw [if_pos h4]
section
variable {xss : List (List Int)} {n : Nat}
/-- all lines alike -/
def Alike (xss : List (List Int)) (n : Nat) : Prop := ∀ l ∈ lns n, lsum xss n l = lsum xss n (.row 0)
theorem ev_parts_no (h : Sq xss n) (h0 : 0 < n) (h1 : n ≤ 10000) (hb : n ≠ 3 ∨ ¬ Alike xss n) : f_parts [dM xss] = .ex "NotEven" := by
  have ha := ev_asked_square h h0 h1
  by_cases e : n = 3
  · subst e
    rcases hb with hb | hb
    · exact absurd rfl hb
    rcases ev_told h h0 h1 with ⟨q, _⟩ | ⟨l, _, _, q⟩
    · exact absurd q hb
    have kI : ∀ x y : Da, kIsC true false (.unl x y) = some (.sh (.bl false)) := fun _ _ => rfl
    have e3 : (((3 : Nat) : Int) == 3) = true := rfl
    simp only [f_parts, g_parts, sSeq_e, then_nx, then_rt, then_ex, fin_ok, fin_ex, sSet_e, sOwn_e, sRet_e, sExpr_e, sRetVar_e, retN_sh, retN_ow, retN_ow2, sIf_e, selS_t, selS_f, selE_t, selE_f, stf_f, stf_t, bind_ok, bind_ex, dat_sh, dat_ow, dat_ow2, dat_ex, ofO_some, eVar_e, eOp_e, eUn_e, eIf_e, fB_e, dB_bl, fAnd_e, fOr_e, andT_t, andT_f, andT_x, orT_t, orT_f, orT_x, fNot_e, eAnd_e, eOr_e, andE_t, andE_f, orE_t, orE_f, eNot_e, dN_bl, eCh_e, chN_t, chN_f, eCh3_e, chN2_t, chN2_f, aCons_e, aNil_e, eLst_e, eTup_e, eCall_e, eFn_e, eC_e, sTgt_e, tgtN_some, sPar_e, parN_e, sRaise_e, sNil_e, eTab_e, tabN_e, eIndexT_e, idxN_e, endS_rt, endS_nx, endS_ex, view_sh, view_ow, view_ow2, shs_cons, shs_nil, shO_sh, shO_dead, shO_ow, shO_ow2, setR_c, setR_n, un1_e, unT_e, oNone_e, oSome_e, dI_int, fDef, List.append_nil, List.nil_append, List.cons_append, List.replicate_succ, List.replicate_zero, List.length_cons, List.length_nil, List.set_cons_zero, List.set_cons_succ, List.getElem?_cons_zero, List.getElem?_cons_succ, Nat.sub_zero, Nat.reduceSub, Nat.reduceAdd, Nat.reduceLeDiff, if_true, if_false, ite_true, ite_false, Bool.false_eq_true, decide_true, decide_false, Bool.not_true, Bool.not_false, kSub_int, kAdd_int, kLt_int, kLe_int, kGt_int, kGe_int, kEq_int, kNe_int, kMod_int, kEq_pair, kNe_pair, Bool.and_true, Bool.and_false, Bool.true_and, Bool.false_and, List.map_cons, List.map_nil, ha, kLen_dM, h.1, e3, q, kI]
  · have e3 : ((n : Int) == 3) = false := beq_eq_false_iff_ne.mpr (by omega)
    simp only [f_parts, g_parts, sSeq_e, then_nx, then_rt, then_ex, fin_ok, fin_ex, sSet_e, sOwn_e, sRet_e, sExpr_e, sRetVar_e, retN_sh, retN_ow, retN_ow2, sIf_e, selS_t, selS_f, selE_t, selE_f, stf_f, stf_t, bind_ok, bind_ex, dat_sh, dat_ow, dat_ow2, dat_ex, ofO_some, eVar_e, eOp_e, eUn_e, eIf_e, fB_e, dB_bl, fAnd_e, fOr_e, andT_t, andT_f, andT_x, orT_t, orT_f, orT_x, fNot_e, eAnd_e, eOr_e, andE_t, andE_f, orE_t, orE_f, eNot_e, dN_bl, eCh_e, chN_t, chN_f, eCh3_e, chN2_t, chN2_f, aCons_e, aNil_e, eLst_e, eTup_e, eCall_e, eFn_e, eC_e, sTgt_e, tgtN_some, sPar_e, parN_e, sRaise_e, sNil_e, eTab_e, tabN_e, eIndexT_e, idxN_e, endS_rt, endS_nx, endS_ex, view_sh, view_ow, view_ow2, shs_cons, shs_nil, shO_sh, shO_dead, shO_ow, shO_ow2, setR_c, setR_n, un1_e, unT_e, oNone_e, oSome_e, dI_int, fDef, List.append_nil, List.nil_append, List.cons_append, List.replicate_succ, List.replicate_zero, List.length_cons, List.length_nil, List.set_cons_zero, List.set_cons_succ, List.getElem?_cons_zero, List.getElem?_cons_succ, Nat.sub_zero, Nat.reduceSub, Nat.reduceAdd, Nat.reduceLeDiff, if_true, if_false, ite_true, ite_false, Bool.false_eq_true, decide_true, decide_false, Bool.not_true, Bool.not_false, kSub_int, kAdd_int, kLt_int, kLe_int, kGt_int, kGe_int, kEq_int, kNe_int, kMod_int, kEq_pair, kNe_pair, Bool.and_true, Bool.and_false, Bool.true_and, Bool.false_and, List.map_cons, List.map_nil, ha, kLen_dM, h.1, e3]
theorem ev_none (h : Sq xss n) (h0 : 0 < n) (h1 : n ≤ 10000) (hb : n ≠ 3 ∨ ¬ Alike xss n) : f__law_none [dM xss] = .ok (.sh (.bl true)) := by
  have hp := ev_parts_no h h0 h1 hb
  have kE : ∀ b, kIsE b .err = some (.sh (.bl b)) := fun _ => rfl
  have e1 : (("NotEven" : Str) == "BadNumber") = false := by decide +kernel
  have e2 : (("NotEven" : Str) == "BadOrder") = false := by decide +kernel
  have e3 : (("NotEven" : Str) == "BadPlace") = false := by decide +kernel
  have e4 : (("NotEven" : Str) == "BadSquare") = false := by decide +kernel
  have e5 : (("NotEven" : Str) == "TooGreat") = false := by decide +kernel
  have e6 : (("NotEven" : Str) == "NotEven") = true := by decide +kernel
  have ka : kAdd (.lst [.bl false, .bl false, .bl false]) (.lst [.bl false, .bl false]) = some (.ow [.bl false, .bl false, .bl false, .bl false, .bl false]) := rfl
  have ky : kAny [.lst [.bl false, .bl false, .bl false, .bl false, .bl false]] = some (.sh (.bl false)) := rfl
  have g0 : f__law_none [dM xss] = endS (g__law_none [.sh (dM xss), .dead, .dead]) := rfl
  rw [g0]
  unfold g__law_none
  rw [sSeq_e, sTry_ex (c := "NotEven") (ρ' := [.sh (dM xss), .dead, .dead]) (s := .sh (.bl true)) (by simp only [sSeq_e, then_nx, then_rt, then_ex, fin_ok, fin_ex, sSet_e, sOwn_e, sRet_e, sExpr_e, sRetVar_e, retN_sh, retN_ow, retN_ow2, sIf_e, selS_t, selS_f, selE_t, selE_f, stf_f, stf_t, bind_ok, bind_ex, dat_sh, dat_ow, dat_ow2, dat_ex, ofO_some, eVar_e, eOp_e, eUn_e, eIf_e, fB_e, dB_bl, fAnd_e, fOr_e, andT_t, andT_f, andT_x, orT_t, orT_f, orT_x, fNot_e, eAnd_e, eOr_e, andE_t, andE_f, orE_t, orE_f, eNot_e, dN_bl, eCh_e, chN_t, chN_f, eCh3_e, chN2_t, chN2_f, aCons_e, aNil_e, eLst_e, eTup_e, eCall_e, eFn_e, eC_e, sTgt_e, tgtN_some, sPar_e, parN_e, sRaise_e, sNil_e, eTab_e, tabN_e, eIndexT_e, idxN_e, endS_rt, endS_nx, endS_ex, view_sh, view_ow, view_ow2, shs_cons, shs_nil, shO_sh, shO_dead, shO_ow, shO_ow2, setR_c, setR_n, un1_e, unT_e, oNone_e, oSome_e, dI_int, fDef, List.append_nil, List.nil_append, List.cons_append, List.replicate_succ, List.replicate_zero, List.length_cons, List.length_nil, List.set_cons_zero, List.set_cons_succ, List.getElem?_cons_zero, List.getElem?_cons_succ, Nat.sub_zero, Nat.reduceSub, Nat.reduceAdd, Nat.reduceLeDiff, if_true, if_false, ite_true, ite_false, Bool.false_eq_true, decide_true, decide_false, Bool.not_true, Bool.not_false, kSub_int, kAdd_int, kLt_int, kLe_int, kGt_int, kGe_int, kEq_int, kNe_int, kMod_int, kEq_pair, kNe_pair, Bool.and_true, Bool.and_false, Bool.true_and, Bool.false_and, hp]) (by decide +kernel) (by
    simp only [sSeq_e, then_nx, then_rt, then_ex, fin_ok, fin_ex, sSet_e, sOwn_e, sRet_e, sExpr_e, sRetVar_e, retN_sh, retN_ow, retN_ow2, sIf_e, selS_t, selS_f, selE_t, selE_f, stf_f, stf_t, bind_ok, bind_ex, dat_sh, dat_ow, dat_ow2, dat_ex, ofO_some, eVar_e, eOp_e, eUn_e, eIf_e, fB_e, dB_bl, fAnd_e, fOr_e, andT_t, andT_f, andT_x, orT_t, orT_f, orT_x, fNot_e, eAnd_e, eOr_e, andE_t, andE_f, orE_t, orE_f, eNot_e, dN_bl, eCh_e, chN_t, chN_f, eCh3_e, chN2_t, chN2_f, aCons_e, aNil_e, eLst_e, eTup_e, eCall_e, eFn_e, eC_e, sTgt_e, tgtN_some, sPar_e, parN_e, sRaise_e, sNil_e, eTab_e, tabN_e, eIndexT_e, idxN_e, endS_rt, endS_nx, endS_ex, view_sh, view_ow, view_ow2, shs_cons, shs_nil, shO_sh, shO_dead, shO_ow, shO_ow2, setR_c, setR_n, un1_e, unT_e, oNone_e, oSome_e, dI_int, fDef, List.append_nil, List.nil_append, List.cons_append, List.replicate_succ, List.replicate_zero, List.length_cons, List.length_nil, List.set_cons_zero, List.set_cons_succ, List.getElem?_cons_zero, List.getElem?_cons_succ, Nat.sub_zero, Nat.reduceSub, Nat.reduceAdd, Nat.reduceLeDiff, if_true, if_false, ite_true, ite_false, Bool.false_eq_true, decide_true, decide_false, Bool.not_true, Bool.not_false, kSub_int, kAdd_int, kLt_int, kLe_int, kGt_int, kGe_int, kEq_int, kNe_int, kMod_int, kEq_pair, kNe_pair, Bool.and_true, Bool.and_false, Bool.true_and, Bool.false_and, kE, e1, e2, e3, e4, e5, e6, ka, ky]) rfl]
  rfl
theorem sums_len (h : Sq xss n) (h1 : n ≤ 1000) (ha : Alike xss n) : ∃ ns : List Int, f__law_sums [dM xss] = .ok (.ow (ns.map .int)) ∧ kLenSet (.lst (ns.map .int)) = some (.sh (.int 1)) := by
  refine ⟨_, ev_law_sums h (by omega), ?_⟩
  rw [kLenSet_ints (by rw [List.length_map, lns_len]; omega), lenSet_all (x := lsum xss n (.row 0)) (fun z hz => by
    obtain ⟨l, hl, rfl⟩ := List.mem_map.mp hz
    exact ha l hl) (fun z => by
      have := congrArg List.length z
      rw [List.length_map, lns_len] at this
      simp at this)]
  rfl
/-- the guard of a square of order three -/
theorem guard (h : Sq xss 3) {v : Nat} {ρ : Rho} (hv : dat (eVar v ρ) = .ok (dM xss)) :
    (fAnd (fB (eOp kGt (eUn kLenSet (eFn f__law_sums (aCons (eVar v) (aNil)))) (eC (.int 1)))) (fNot (fB (eFn f__law_none (aCons (eVar v) (aNil)))))) ρ = .ok false := by
  by_cases e : Alike xss 3
  · obtain ⟨ns, a1, a2⟩ := sums_len h (by decide) e
    simp only [fAnd_e, fB_e, eOp_e, eUn_e, eFn_e, aCons_e, aNil_e, hv, bind_ok, a1, dat_ow, dat_sh, a2, ofO_some, eC_e, kGt_int, dB_bl, Int.reduceLT, decide_false, andT_f]
  · have hn := ev_none h (by decide) (by decide) (.inr e)
    have hs := ev_law_sums h (show 3 ≤ 10000 by decide)
    have hl : ((lns 3).map (fun l => lsum xss 3 l)).length ≤ 4000 := by rw [List.length_map, lns_len]; decide
    generalize (lns 3).map (fun l => lsum xss 3 l) = ns at hs hl
    by_cases e2 : (1 : Int) < ((lenSet ns : Nat) : Int)
    · simp only [fAnd_e, fB_e, eOp_e, eUn_e, eFn_e, aCons_e, aNil_e, hv, bind_ok, hs, dat_ow, dat_sh, kLenSet_ints hl, ofO_some, eC_e, kGt_int, dB_bl, decide_eq_true e2, andT_t, fNot_e, hn, Bool.not_true]
    · simp only [fAnd_e, fB_e, eOp_e, eUn_e, eFn_e, aCons_e, aNil_e, hv, bind_ok, hs, dat_ow, dat_sh, kLenSet_ints hl, ofO_some, eC_e, kGt_int, dB_bl, decide_eq_false e2, andT_f]
end
end K05

namespace K05
open PySem PySem.Spec PyProof.Rows L2 G6
theorem rsum3 {G : Nat → Nat → Int} {k : Nat} (hk : k < 3) : lsum (tb 3 3 G) 3 (.row k) = 0 + G k 0 + G k 1 + G k 2 := by
  have e : ∀ i j, i < 3 → j < 3 → ent (tb 3 3 G) i j = G i j := fun i j hi hj => tb_ent hi hj
  show 0 + ent (tb 3 3 G) k 0 + ent (tb 3 3 G) k 1 + ent (tb 3 3 G) k 2 = _
  rw [e k 0 hk (by decide), e k 1 hk (by decide), e k 2 hk (by decide)]
theorem row_in {k : Nat} (hk : k < 3) : Ln.row k ∈ lns 3 := by
  unfold lns
  exact List.mem_append_left _ (List.mem_append_left _ (List.mem_map.mpr ⟨k, List.mem_range.mpr hk, rfl⟩))
/-- one number changed: no more even -/
theorem bent_no {F : Nat → Nat → Int} {s v : Int} (h : Ev3 F s) {p q : Nat} (hp : p < 3) (hq : q < 3) (hv : v ≠ F p q) : ¬ Alike (tb 3 3 (upd2 F p q v)) 3 := by
  intro ha
  have r1 := ha _ (row_in (k := 1) (by decide))
  have r2 := ha _ (row_in (k := 2) (by decide))
  rw [rsum3 (by decide), rsum3 (by decide)] at r1 r2
  obtain ⟨a0, a1, a2, _, _, _, _, _⟩ := h
  have hp' : p = 0 ∨ p = 1 ∨ p = 2 := by omega
  have hq' : q = 0 ∨ q = 1 ∨ q = 2 := by omega
  unfold upd2 at r1 r2
  rcases hp' with rfl | rfl | rfl <;> rcases hq' with rfl | rfl | rfl <;> simp at r1 r2 <;> omega
theorem ev_three {a b c : Int} : f_three [.int a, .int b, .int c] = .ok (.ow2 (dD (three a b c))) := by
  have i1 : ∀ z : Int, f_is_number [.int z] = .ok (.sh (.bl true)) := fun _ => rfl
  simp only [f_three, g_three, sRet3, sSeq_e, then_nx, then_rt, then_ex, fin_ok, fin_ex, sSet_e, sOwn_e, sRet_e, sExpr_e, sRetVar_e, retN_sh, retN_ow, retN_ow2, sIf_e, selS_t, selS_f, selE_t, selE_f, stf_f, stf_t, bind_ok, bind_ex, dat_sh, dat_ow, dat_ow2, dat_ex, ofO_some, eVar_e, eOp_e, eUn_e, eIf_e, fB_e, dB_bl, fAnd_e, fOr_e, andT_t, andT_f, andT_x, orT_t, orT_f, orT_x, fNot_e, eAnd_e, eOr_e, andE_t, andE_f, orE_t, orE_f, eNot_e, dN_bl, eCh_e, chN_t, chN_f, eCh3_e, chN2_t, chN2_f, aCons_e, aNil_e, eLst_e, eTup_e, eCall_e, eFn_e, eC_e, sTgt_e, tgtN_some, sPar_e, parN_e, sRaise_e, sNil_e, eTab_e, tabN_e, eIndexT_e, idxN_e, endS_rt, endS_nx, endS_ex, view_sh, view_ow, view_ow2, shs_cons, shs_nil, shO_sh, shO_dead, shO_ow, shO_ow2, setR_c, setR_n, un1_e, unT_e, oNone_e, oSome_e, dI_int, fDef, List.append_nil, List.nil_append, List.cons_append, List.replicate_succ, List.replicate_zero, List.length_cons, List.length_nil, List.set_cons_zero, List.set_cons_succ, List.getElem?_cons_zero, List.getElem?_cons_succ, Nat.sub_zero, Nat.reduceSub, Nat.reduceAdd, Nat.reduceLeDiff, if_true, if_false, ite_true, ite_false, Bool.false_eq_true, decide_true, decide_false, Bool.not_true, Bool.not_false, kSub_int, kAdd_int, kLt_int, kLe_int, kGt_int, kGe_int, kEq_int, kNe_int, kMod_int, kEq_pair, kNe_pair, Bool.and_true, Bool.and_false, Bool.true_and, Bool.false_and, List.map_cons, List.map_nil, i1]
  rfl
theorem alike_three {a b c : Int} : Alike (three a b c) 3 := by
  have E := ev3_three (a := a) (b := b) (c := c)
  have hE := (three_sq (a := a) (b := b) (c := c)).tb
  have hs := ev3_sum E
  rw [← hE] at hs
  intro l hl
  rw [hs l hl, hs _ (row_in (k := 0) (by decide))]
theorem ev_parts {a b c : Int} : f_parts [dM (three a b c)] = .ok (.sh (.tup [.int a, .int b, .int c])) := by
  have sq := three_sq (a := a) (b := b) (c := c)
  have ha := ev_asked_square sq (by decide) (by decide)
  obtain ⟨s, ht⟩ : ∃ s, f_told [dM (three a b c)] = .ok (.sh (.even (.int s))) := by
    rcases ev_told sq (by decide) (by decide) with ⟨_, q⟩ | ⟨l, q1, q2, _⟩
    · exact ⟨_, q⟩
    · exact absurd (alike_three l q1) q2
  have kI : kIsC true false (.even (.int s)) = some (.sh (.bl true)) := rfl
  have kl : kLen [dM (three a b c)] = some (.sh (.int 3)) := rfl
  have i1 : kIx (dM (three a b c)) (.int 1) = some (.sh (.lst [.int (a - b + c), .int a, .int (a + b - c)])) := rfl
  have i0 : kIx (dM (three a b c)) (.int 0) = some (.sh (.lst [.int (a + b), .int (a - b - c), .int (a + c)])) := rfl
  have j1 : kIx (.lst [.int (a - b + c), .int a, .int (a + b - c)]) (.int 1) = some (.sh (.int a)) := rfl
  have j0 : kIx (.lst [.int (a + b), .int (a - b - c), .int (a + c)]) (.int 0) = some (.sh (.int (a + b))) := rfl
  have j2 : kIx (.lst [.int (a + b), .int (a - b - c), .int (a + c)]) (.int 2) = some (.sh (.int (a + c))) := rfl
  have e3 : ((3 : Int) == 3) = true := rfl
  have e1 : a + b - a = b := by omega
  have e2 : a + c - a = c := by omega
  simp only [f_parts, g_parts, sSeq_e, then_nx, then_rt, then_ex, fin_ok, fin_ex, sSet_e, sOwn_e, sRet_e, sExpr_e, sRetVar_e, retN_sh, retN_ow, retN_ow2, sIf_e, selS_t, selS_f, selE_t, selE_f, stf_f, stf_t, bind_ok, bind_ex, dat_sh, dat_ow, dat_ow2, dat_ex, ofO_some, eVar_e, eOp_e, eUn_e, eIf_e, fB_e, dB_bl, fAnd_e, fOr_e, andT_t, andT_f, andT_x, orT_t, orT_f, orT_x, fNot_e, eAnd_e, eOr_e, andE_t, andE_f, orE_t, orE_f, eNot_e, dN_bl, eCh_e, chN_t, chN_f, eCh3_e, chN2_t, chN2_f, aCons_e, aNil_e, eLst_e, eTup_e, eCall_e, eFn_e, eC_e, sTgt_e, tgtN_some, sPar_e, parN_e, sRaise_e, sNil_e, eTab_e, tabN_e, eIndexT_e, idxN_e, endS_rt, endS_nx, endS_ex, view_sh, view_ow, view_ow2, shs_cons, shs_nil, shO_sh, shO_dead, shO_ow, shO_ow2, setR_c, setR_n, un1_e, unT_e, oNone_e, oSome_e, dI_int, fDef, List.append_nil, List.nil_append, List.cons_append, List.replicate_succ, List.replicate_zero, List.length_cons, List.length_nil, List.set_cons_zero, List.set_cons_succ, List.getElem?_cons_zero, List.getElem?_cons_succ, Nat.sub_zero, Nat.reduceSub, Nat.reduceAdd, Nat.reduceLeDiff, if_true, if_false, ite_true, ite_false, Bool.false_eq_true, decide_true, decide_false, Bool.not_true, Bool.not_false, kSub_int, kAdd_int, kLt_int, kLe_int, kGt_int, kGe_int, kEq_int, kNe_int, kMod_int, kEq_pair, kNe_pair, Bool.and_true, Bool.and_false, Bool.true_and, Bool.false_and, List.map_cons, List.map_nil, ha, kl, e3, ht, kI, i1, i0, j1, j0, j2, e1, e2]
theorem kNe_t3 {a b c : Int} : kNe (.tup [.int a, .int b, .int c]) (.tup [.int a, .int b, .int c]) = some (.sh (.bl false)) := by
  have hf : fits 8 (.tup [.int a, .int b, .int c]) = true := rfl
  have he : eqF 8 (.tup [.int a, .int b, .int c]) (.tup [.int a, .int b, .int c]) = true := by
    show ((a == a) && ((b == b) && ((c == c) && true))) = true
    simp
  unfold kNe
  rw [show nrm (.tup [.int a, .int b, .int c]) = .tup [.int a, .int b, .int c] from rfl, hf, he]
  rfl
def BODY : SemS := (sSeq (sOwn 9 false (eFn f_three (aCons (eVar 3) (aCons (eVar 4) (aCons (eVar 5) (aNil))))))
    (sSeq (sSet 10 false (eFn f__law_three (aCons (eVar 3) (aCons (eVar 4) (aCons (eVar 5) (aNil))))))
    (sSeq (sIf (fOr (fNot (fB (eUn (kIsi .list) (eVar 9)))) (fOr (fB (eOp kNe (eVar 9) (eVar 10))) (fB (eOp kNe (eUn kLenSet (eFn f__law_sums (aCons (eVar 9) (aNil)))) (eC (.int 1))))))
    (sRet false (eC (.bl false))) (sNil))
    (sSeq (sIf (fOr (fB (eOp kNe (eFn f_parts (aCons (eVar 9) (aNil))) (eTup (aCons (eVar 3) (aCons (eVar 4) (aCons (eVar 5) (aNil))))))) (fNot (fB (eUn (kIsi .tuple) (eFn f_parts (aCons (eVar 9) (aNil)))))))
    (sRet false (eC (.bl false))) (sNil))
    (sSeq (sSet 11 false (eOp kMod (eOp kDiv (eVar 1) (eC (.int 3))) (eC (.int 3))))
    (sSeq (sPutII 9 true (eOp kAdd (eOp kAdd (eOp kIx (eOp kIx (eVar 9) (eOp kMod (eVar 1) (eC (.int 3)))) (eVar 11)) (eC (.int 1))) (eOp kMod (eVar 1) (eC (.int 5)))) (eOp kMod (eVar 1) (eC (.int 3))) (eVar 11))
    (sIf (fOr (fNot (fB (eFn f__law_none (aCons (eVar 9) (aNil))))) (fB (eOp kNe (eFn f_three (aCons (eVar 3) (aCons (eVar 4) (aCons (eVar 5) (aNil))))) (eVar 10))))
    (sRet false (eC (.bl false))) (sNil))))))))
section
variable {ns : List Int} {M : Int} {num : List (List Int)}
theorem step {a b c : Int} {x9 x10 x11 : Sl} (s9 : shO x9 = .dead) (s10 : shO x10 = x10) (s11 : shO x11 = x11) : ∃ y9 y10 y11, BODY [.sh (.scr ns), .sh (.int M), .sh (dM num), .sh (.int a), .sh (.int b), .sh (.int c), .dead, .dead, .dead, x9, x10, x11, .dead, .dead] = .nx [.sh (.scr ns), .sh (.int M), .sh (dM num), .sh (.int a), .sh (.int b), .sh (.int c), .dead, .dead, .dead, y9, y10, y11, .dead, .dead] ∧ shO y9 = .dead ∧ shO y10 = y10 ∧ shO y11 = y11 := by
  have d3 : ∀ x, divOk x 3 = true := fun x => divOk_s (by omega) (by omega)
  obtain ⟨p, hp, p3⟩ : ∃ p : Nat, M % 3 = (p : Int) ∧ p < 3 := ⟨(M % 3).toNat, by omega, by omega⟩
  obtain ⟨q, hq, q3⟩ : ∃ q : Nat, M / 3 % 3 = (q : Int) ∧ q < 3 := ⟨(M / 3 % 3).toNat, by omega, by omega⟩
  have t1 := ev_three (a := a) (b := b) (c := c)
  have t2 := ev_law_three (a := a) (b := b) (c := c)
  have t3 := ev_parts (a := a) (b := b) (c := c)
  obtain ⟨sm, t4, t5⟩ := sums_len (three_sq (a := a) (b := b) (c := c)) (by decide) alike_three
  have E := ev3_three (a := a) (b := b) (c := c)
  have hE := (three_sq (a := a) (b := b) (c := c)).tb
  generalize three a b c = S at *
  generalize ent S = F at *
  subst hE
  have k1 : kIsi .tuple (.tup [.int a, .int b, .int c]) = some (.sh (.bl true)) := rfl
  have e11 : ((1 : Int) == 1) = true := rfl
  have hput : sPutII 9 true (eOp kAdd (eOp kAdd (eOp kIx (eOp kIx (eVar 9) (eOp kMod (eVar 1) (eC (.int 3)))) (eVar 11)) (eC (.int 1))) (eOp kMod (eVar 1) (eC (.int 5)))) (eOp kMod (eVar 1) (eC (.int 3))) (eVar 11) [.sh (.scr ns), .sh (.int M), .sh (dM num), .sh (.int a), .sh (.int b), .sh (.int c), .dead, .dead, .dead, .ow2 (dD (tb 3 3 F)), .sh (dM (tb 3 3 F)), .sh (.int (q : Int)), .dead, .dead] = .nx [.sh (.scr ns), .sh (.int M), .sh (dM num), .sh (.int a), .sh (.int b), .sh (.int c), .dead, .dead, .dead, .ow2 (dD (tb 3 3 (upd2 F p q (F p q + 1 + M % 5)))), .sh (dM (tb 3 3 F)), .sh (.int (q : Int)), .dead, .dead] :=
    (sPutII_ok (d := .int (F p q + 1 + M % 5)) (k1 := (p : Int)) (k2 := (q : Int)) (by simp (disch := omega) only [sSeq_e, then_nx, then_rt, then_ex, fin_ok, fin_ex, sSet_e, sOwn_e, sRet_e, sExpr_e, sRetVar_e, retN_sh, retN_ow, retN_ow2, sIf_e, selS_t, selS_f, selE_t, selE_f, stf_f, stf_t, bind_ok, bind_ex, dat_sh, dat_ow, dat_ow2, dat_ex, ofO_some, eVar_e, eOp_e, eUn_e, eIf_e, fB_e, dB_bl, fAnd_e, fOr_e, andT_t, andT_f, andT_x, orT_t, orT_f, orT_x, fNot_e, eAnd_e, eOr_e, andE_t, andE_f, orE_t, orE_f, eNot_e, dN_bl, eCh_e, chN_t, chN_f, eCh3_e, chN2_t, chN2_f, aCons_e, aNil_e, eLst_e, eTup_e, eCall_e, eFn_e, eC_e, sTgt_e, tgtN_some, sPar_e, parN_e, sRaise_e, sNil_e, eTab_e, tabN_e, eIndexT_e, idxN_e, endS_rt, endS_nx, endS_ex, view_sh, view_ow, view_ow2, shs_cons, shs_nil, shO_sh, shO_dead, shO_ow, shO_ow2, setR_c, setR_n, un1_e, unT_e, oNone_e, oSome_e, dI_int, fDef, List.append_nil, List.nil_append, List.cons_append, List.replicate_succ, List.replicate_zero, List.length_cons, List.length_nil, List.set_cons_zero, List.set_cons_succ, List.getElem?_cons_zero, List.getElem?_cons_succ, Nat.sub_zero, Nat.reduceSub, Nat.reduceAdd, Nat.reduceLeDiff, if_true, if_false, ite_true, ite_false, Bool.false_eq_true, decide_true, decide_false, Bool.not_true, Bool.not_false, kSub_int, kAdd_int, kLt_int, kLe_int, kGt_int, kGe_int, kEq_int, kNe_int, kMod_int, kEq_pair, kNe_pair, Bool.and_true, Bool.and_false, Bool.true_and, Bool.false_and, lst_dD, hp, kIx_tbk p3, kIx_rowD q3, sep_int]) rfl (by simp (disch := omega) only [sSeq_e, then_nx, then_rt, then_ex, fin_ok, fin_ex, sSet_e, sOwn_e, sRet_e, sExpr_e, sRetVar_e, retN_sh, retN_ow, retN_ow2, sIf_e, selS_t, selS_f, selE_t, selE_f, stf_f, stf_t, bind_ok, bind_ex, dat_sh, dat_ow, dat_ow2, dat_ex, ofO_some, eVar_e, eOp_e, eUn_e, eIf_e, fB_e, dB_bl, fAnd_e, fOr_e, andT_t, andT_f, andT_x, orT_t, orT_f, orT_x, fNot_e, eAnd_e, eOr_e, andE_t, andE_f, orE_t, orE_f, eNot_e, dN_bl, eCh_e, chN_t, chN_f, eCh3_e, chN2_t, chN2_f, aCons_e, aNil_e, eLst_e, eTup_e, eCall_e, eFn_e, eC_e, sTgt_e, tgtN_some, sPar_e, parN_e, sRaise_e, sNil_e, eTab_e, tabN_e, eIndexT_e, idxN_e, endS_rt, endS_nx, endS_ex, view_sh, view_ow, view_ow2, shs_cons, shs_nil, shO_sh, shO_dead, shO_ow, shO_ow2, setR_c, setR_n, un1_e, unT_e, oNone_e, oSome_e, dI_int, fDef, List.append_nil, List.nil_append, List.cons_append, List.replicate_succ, List.replicate_zero, List.length_cons, List.length_nil, List.set_cons_zero, List.set_cons_succ, List.getElem?_cons_zero, List.getElem?_cons_succ, Nat.sub_zero, Nat.reduceSub, Nat.reduceAdd, Nat.reduceLeDiff, if_true, if_false, ite_true, ite_false, Bool.false_eq_true, decide_true, decide_false, Bool.not_true, Bool.not_false, kSub_int, kAdd_int, kLt_int, kLe_int, kGt_int, kGe_int, kEq_int, kNe_int, kMod_int, kEq_pair, kNe_pair, Bool.and_true, Bool.and_false, Bool.true_and, Bool.false_and, hp]) (by simp only [sSeq_e, then_nx, then_rt, then_ex, fin_ok, fin_ex, sSet_e, sOwn_e, sRet_e, sExpr_e, sRetVar_e, retN_sh, retN_ow, retN_ow2, sIf_e, selS_t, selS_f, selE_t, selE_f, stf_f, stf_t, bind_ok, bind_ex, dat_sh, dat_ow, dat_ow2, dat_ex, ofO_some, eVar_e, eOp_e, eUn_e, eIf_e, fB_e, dB_bl, fAnd_e, fOr_e, andT_t, andT_f, andT_x, orT_t, orT_f, orT_x, fNot_e, eAnd_e, eOr_e, andE_t, andE_f, orE_t, orE_f, eNot_e, dN_bl, eCh_e, chN_t, chN_f, eCh3_e, chN2_t, chN2_f, aCons_e, aNil_e, eLst_e, eTup_e, eCall_e, eFn_e, eC_e, sTgt_e, tgtN_some, sPar_e, parN_e, sRaise_e, sNil_e, eTab_e, tabN_e, eIndexT_e, idxN_e, endS_rt, endS_nx, endS_ex, view_sh, view_ow, view_ow2, shs_cons, shs_nil, shO_sh, shO_dead, shO_ow, shO_ow2, setR_c, setR_n, un1_e, unT_e, oNone_e, oSome_e, dI_int, fDef, List.append_nil, List.nil_append, List.cons_append, List.replicate_succ, List.replicate_zero, List.length_cons, List.length_nil, List.set_cons_zero, List.set_cons_succ, List.getElem?_cons_zero, List.getElem?_cons_succ, Nat.sub_zero, Nat.reduceSub, Nat.reduceAdd, Nat.reduceLeDiff, if_true, if_false, ite_true, ite_false, Bool.false_eq_true, decide_true, decide_false, Bool.not_true, Bool.not_false, kSub_int, kAdd_int, kLt_int, kLe_int, kGt_int, kGe_int, kEq_int, kNe_int, kMod_int, kEq_pair, kNe_pair, Bool.and_true, Bool.and_false, Bool.true_and, Bool.false_and]) (put2_tb p3 q3)).trans rfl
  have hno := ev_none (tb_sq (n := 3) (f := upd2 F p q (F p q + 1 + M % 5))) (by decide) (by decide) (.inr (bent_no E p3 q3 (by omega)))
  refine ⟨.ow2 (dD (tb 3 3 (upd2 F p q (F p q + 1 + M % 5)))), .sh (dM (tb 3 3 F)), .sh (.int (q : Int)), ?_, rfl, rfl, rfl⟩
  unfold BODY
  simp (disch := omega) only [sSeq_e, then_nx, then_rt, then_ex, fin_ok, fin_ex, sSet_e, sOwn_e, sRet_e, sExpr_e, sRetVar_e, retN_sh, retN_ow, retN_ow2, sIf_e, selS_t, selS_f, selE_t, selE_f, stf_f, stf_t, bind_ok, bind_ex, dat_sh, dat_ow, dat_ow2, dat_ex, ofO_some, eVar_e, eOp_e, eUn_e, eIf_e, fB_e, dB_bl, fAnd_e, fOr_e, andT_t, andT_f, andT_x, orT_t, orT_f, orT_x, fNot_e, eAnd_e, eOr_e, andE_t, andE_f, orE_t, orE_f, eNot_e, dN_bl, eCh_e, chN_t, chN_f, eCh3_e, chN2_t, chN2_f, aCons_e, aNil_e, eLst_e, eTup_e, eCall_e, eFn_e, eC_e, sTgt_e, tgtN_some, sPar_e, parN_e, sRaise_e, sNil_e, eTab_e, tabN_e, eIndexT_e, idxN_e, endS_rt, endS_nx, endS_ex, view_sh, view_ow, view_ow2, shs_cons, shs_nil, shO_sh, shO_dead, shO_ow, shO_ow2, setR_c, setR_n, un1_e, unT_e, oNone_e, oSome_e, dI_int, fDef, List.append_nil, List.nil_append, List.cons_append, List.replicate_succ, List.replicate_zero, List.length_cons, List.length_nil, List.set_cons_zero, List.set_cons_succ, List.getElem?_cons_zero, List.getElem?_cons_succ, Nat.sub_zero, Nat.reduceSub, Nat.reduceAdd, Nat.reduceLeDiff, if_true, if_false, ite_true, ite_false, Bool.false_eq_true, decide_true, decide_false, Bool.not_true, Bool.not_false, kSub_int, kAdd_int, kLt_int, kLe_int, kGt_int, kGe_int, kEq_int, kNe_int, kMod_int, kEq_pair, kNe_pair, Bool.and_true, Bool.and_false, Bool.true_and, Bool.false_and, lst_dD, s9, s10, s11, t1, t2, dM_own, kIsi_dM, kNe_dM_self, t4, t5, e11, t3, kNe_t3, k1, (fun x => kDiv_int (d3 x)), hq, hput, hno]
theorem loop3 : ∀ (L : List (List Int)), (∀ r ∈ L, r.length = 3) → ∀ {x3 x4 x5 x9 x10 x11 : Sl}, shO x9 = .dead → shO x10 = x10 → shO x11 = x11 → ∃ y3 y4 y5 y9 y10 y11, loopF [3, 4, 5] asL BODY (L.map fun (r : List Int) => Da.lst (r.map Da.int)) [.sh (.scr ns), .sh (.int M), .sh (dM num), x3, x4, x5, .dead, .dead, .dead, x9, x10, x11, .dead, .dead] = .nx [.sh (.scr ns), .sh (.int M), .sh (dM num), y3, y4, y5, .dead, .dead, .dead, y9, y10, y11, .dead, .dead] ∧ shO y9 = .dead ∧ shO y10 = y10 ∧ shO y11 = y11
  | [], _, x3, x4, x5, x9, x10, x11, s9, s10, s11 => ⟨x3, x4, x5, x9, x10, x11, rfl, s9, s10, s11⟩
  | r :: L, h, x3, x4, x5, x9, x10, x11, s9, s10, s11 => by
    have hr := h r List.mem_cons_self
    obtain ⟨a, b, c, rfl⟩ : ∃ a b c, r = [a, b, c] := by
      match r, hr with
      | [a, b, c], _ => exact ⟨a, b, c, rfl⟩
    obtain ⟨y9, y10, y11, q1, q2, q3, q4⟩ := step (ns := ns) (M := M) (num := num) (a := a) (b := b) (c := c) s9 s10 s11
    obtain ⟨z3, z4, z5, z9, z10, z11, w1, w2⟩ := loop3 L (fun r hr => h r (List.mem_cons_of_mem _ hr)) (x3 := .sh (.int a)) (x4 := .sh (.int b)) (x5 := .sh (.int c)) q2 q3 q4
    refine ⟨z3, z4, z5, z9, z10, z11, ?_, w2⟩
    have e : loopF [3, 4, 5] asL BODY (Da.lst [.int a, .int b, .int c] :: (L.map fun (r : List Int) => Da.lst (r.map Da.int))) [.sh (.scr ns), .sh (.int M), .sh (dM num), x3, x4, x5, .dead, .dead, .dead, x9, x10, x11, .dead, .dead] = loopF [3, 4, 5] asL BODY (L.map fun (r : List Int) => Da.lst (r.map Da.int)) [.sh (.scr ns), .sh (.int M), .sh (dM num), .sh (.int a), .sh (.int b), .sh (.int c), .dead, .dead, .dead, y9, y10, y11, .dead, .dead] := by
      have e0 : ∀ ds : List Da, ∀ ρ : Rho, loopF [3, 4, 5] asL BODY (Da.lst [.int a, .int b, .int c] :: ds) ρ = loopN [3, 4, 5] asL BODY ds (BODY (setR ρ [3, 4, 5] [.int a, .int b, .int c])) := fun ds ρ => by
        rw [loop_cons (xs := [.int a, .int b, .int c]) rfl rfl]
      rw [e0]
      simp only [setR_c, setR_n, List.set_cons_zero, List.set_cons_succ, q1, loopN_nx]
    rw [List.map_cons]
    exact e.trans w1
theorem loopG {y3 y4 y5 y6 y9 y10 y11 : Sl} : ∀ (L : List (List (List Int))), (∀ s ∈ L, Sq s 3) → ∀ {x7 : Sl}, ∃ z7, loopF [7] un1 (sIf (fAnd (fB (eOp kGt (eUn kLenSet (eFn f__law_sums (aCons (eVar 7) (aNil)))) (eC (.int 1)))) (fNot (fB (eFn f__law_none (aCons (eVar 7) (aNil))))))
    (sRet false (eC (.bl false))) (sNil)) (L.map dM) [.sh (.scr ns), .sh (.int M), .sh (dM num), y3, y4, y5, y6, x7, .dead, y9, y10, y11, .dead, .dead] = .nx [.sh (.scr ns), .sh (.int M), .sh (dM num), y3, y4, y5, y6, z7, .dead, y9, y10, y11, .dead, .dead]
  | [], _, x7 => ⟨x7, rfl⟩
  | s :: L, h, x7 => by
    have g := guard (h s List.mem_cons_self) (v := 7) (ρ := [.sh (.scr ns), .sh (.int M), .sh (dM num), y3, y4, y5, y6, .sh (dM s), .dead, y9, y10, y11, .dead, .dead]) rfl
    obtain ⟨z7, w⟩ := loopG L (fun s hs => h s (List.mem_cons_of_mem _ hs)) (x7 := .sh (dM s))
    refine ⟨z7, ?_⟩
    rw [List.map_cons, loop_un1]
    simp only [List.set_cons_zero, List.set_cons_succ, sIf_e, g, fin_ok, selS_f, sNil_e, loopN_nx]
    exact w
end
theorem law_true : ∀ ns : List Int, ns.length ≤ 63 → (∀ z ∈ ns, Builtin.Int.intBits z ≤ 1048576) → f_law [.scr ns] = .ok (.sh (.bl true)) := by
  intro ns hl hbits
  generalize hms : cut ns none (some 63) = ms
  generalize hM : ms.sum = M
  obtain ⟨num, u1, _, u3⟩ := ev_law_draw (ns := ms) (n := 3) (b := 0) (by omega) (by omega) (by omega) (by omega)
  have u3 : f__law_draw [.lst (ms.map .int), .int 3, .int 0] = .ok (.ow2 (dD num)) := u3
  obtain ⟨n, hn, h0, h7⟩ : ∃ n : Nat, 1 + M % 7 = (n : Int) ∧ 0 < n ∧ n ≤ 7 := ⟨(1 + M % 7).toNat, by omega, by omega, by omega⟩
  have rg := rangeN_nat (show n ≤ 1000000 by omega)
  have rg3 : rangeN 3 = .ok ((List.range 3).map fun (k : Nat) => Da.int (k : Int)) := rangeN_nat (n := 3) (by decide)
  have ka : kAdd (dM num) (.lst [.lst [.int 0, .int 0, .int 0], .lst [.int 5, .int 3, .int 1]]) = some (.ow ((num ++ ([[0, 0, 0], [5, 3, 1]] : List (List Int))).map fun r => Da.lst (r.map .int))) := by
    refine (kAdd_lst (by rw [List.length_map, u1.1]; simp)).trans ?_
    rw [List.map_append]
    rfl
  have hL : ∀ r ∈ num ++ ([[0, 0, 0], [5, 3, 1]] : List (List Int)), r.length = 3 := fun r hr => by
    rcases List.mem_append.mp hr with z | z
    · exact u1.2 r z
    · simp only [List.mem_cons, List.not_mem_nil, or_false] at z
      rcases z with rfl | rfl <;> rfl
  generalize num ++ ([[0, 0, 0], [5, 3, 1]] : List (List Int)) = L at ka hL
  obtain ⟨y3, y4, y5, y9, y10, y11, w1, s9, s10, s11⟩ := loop3 (ns := ns) (M := M) (num := num) L hL (x3 := .dead) (x4 := .dead) (x5 := .dead) (x9 := .dead) (x10 := .dead) (x11 := .dead) rfl rfl rfl
  have g2 := guard u1 (v := 2) (ρ := [.sh (.scr ns), .sh (.int M), .sh (dM num), y3, y4, y5, .dead, .dead, .dead, y9, y10, y11, .dead, .dead]) rfl
  have hnum := u1.tb
  have hsh : ∀ z3 z4 z5 : Sl, True := fun _ _ _ => trivial
  obtain ⟨W, hW⟩ := grid_ex (N := 3) (i := 12) (j := 13) (fs := aCons (eC (.int 3)) (aNil)) (fe := (eOp kIx (eOp kIx (eVar 2) (eC (.int 0))) (eOp kMod (eOp kAdd (eVar 13) (eVar 12)) (eC (.int 3))))) (ρ := [.sh (.scr ns), .sh (.int M), .sh (dM num), shO y3, shO y4, shO y5, .dead, .dead, .dead, .dead, y10, y11, .dead, .dead]) (by decide)
    (by simp only [iR1_e, sSeq_e, then_nx, then_rt, then_ex, fin_ok, fin_ex, sSet_e, sOwn_e, sRet_e, sExpr_e, sRetVar_e, retN_sh, retN_ow, retN_ow2, sIf_e, selS_t, selS_f, selE_t, selE_f, stf_f, stf_t, bind_ok, bind_ex, dat_sh, dat_ow, dat_ow2, dat_ex, ofO_some, eVar_e, eOp_e, eUn_e, eIf_e, fB_e, dB_bl, fAnd_e, fOr_e, andT_t, andT_f, andT_x, orT_t, orT_f, orT_x, fNot_e, eAnd_e, eOr_e, andE_t, andE_f, orE_t, orE_f, eNot_e, dN_bl, eCh_e, chN_t, chN_f, eCh3_e, chN2_t, chN2_f, aCons_e, aNil_e, eLst_e, eTup_e, eCall_e, eFn_e, eC_e, sTgt_e, tgtN_some, sPar_e, parN_e, sRaise_e, sNil_e, eTab_e, tabN_e, eIndexT_e, idxN_e, endS_rt, endS_nx, endS_ex, view_sh, view_ow, view_ow2, shs_cons, shs_nil, shO_sh, shO_dead, shO_ow, shO_ow2, setR_c, setR_n, un1_e, unT_e, oNone_e, oSome_e, dI_int, fDef, List.append_nil, List.nil_append, List.cons_append, List.replicate_succ, List.replicate_zero, List.length_cons, List.length_nil, List.set_cons_zero, List.set_cons_succ, List.getElem?_cons_zero, List.getElem?_cons_succ, Nat.sub_zero, Nat.reduceSub, Nat.reduceAdd, Nat.reduceLeDiff, if_true, if_false, ite_true, ite_false, Bool.false_eq_true, decide_true, decide_false, Bool.not_true, Bool.not_false, kSub_int, kAdd_int, kLt_int, kLe_int, kGt_int, kGe_int, kEq_int, kNe_int, kMod_int, kEq_pair, kNe_pair, Bool.and_true, Bool.and_false, Bool.true_and, Bool.false_and, rN_int, rg3]) (fun r hr => by simp only [wipeR, iR1_e, sSeq_e, then_nx, then_rt, then_ex, fin_ok, fin_ex, sSet_e, sOwn_e, sRet_e, sExpr_e, sRetVar_e, retN_sh, retN_ow, retN_ow2, sIf_e, selS_t, selS_f, selE_t, selE_f, stf_f, stf_t, bind_ok, bind_ex, dat_sh, dat_ow, dat_ow2, dat_ex, ofO_some, eVar_e, eOp_e, eUn_e, eIf_e, fB_e, dB_bl, fAnd_e, fOr_e, andT_t, andT_f, andT_x, orT_t, orT_f, orT_x, fNot_e, eAnd_e, eOr_e, andE_t, andE_f, orE_t, orE_f, eNot_e, dN_bl, eCh_e, chN_t, chN_f, eCh3_e, chN2_t, chN2_f, aCons_e, aNil_e, eLst_e, eTup_e, eCall_e, eFn_e, eC_e, sTgt_e, tgtN_some, sPar_e, parN_e, sRaise_e, sNil_e, eTab_e, tabN_e, eIndexT_e, idxN_e, endS_rt, endS_nx, endS_ex, view_sh, view_ow, view_ow2, shs_cons, shs_nil, shO_sh, shO_dead, shO_ow, shO_ow2, setR_c, setR_n, un1_e, unT_e, oNone_e, oSome_e, dI_int, fDef, List.append_nil, List.nil_append, List.cons_append, List.replicate_succ, List.replicate_zero, List.length_cons, List.length_nil, List.set_cons_zero, List.set_cons_succ, List.getElem?_cons_zero, List.getElem?_cons_succ, Nat.sub_zero, Nat.reduceSub, Nat.reduceAdd, Nat.reduceLeDiff, if_true, if_false, ite_true, ite_false, Bool.false_eq_true, decide_true, decide_false, Bool.not_true, Bool.not_false, kSub_int, kAdd_int, kLt_int, kLe_int, kGt_int, kGe_int, kEq_int, kNe_int, kMod_int, kEq_pair, kNe_pair, Bool.and_true, Bool.and_false, Bool.true_and, Bool.false_and, rN_int, rg3]) (fun r k hr hk => by
      have e1 : ((k : Int) + (r : Int)) % 3 = (((k + r) % 3 : Nat) : Int) := by omega
      have e2 : (k + r) % 3 < 3 := Nat.mod_lt _ (by decide)
      have i0 : kIx (dM num) (.int 0) = some (.sh (rowD 3 (ent num 0))) := by
        conv => lhs; rw [hnum]
        exact kIx_tb0 (by decide)
      refine ⟨ent num 0 ((k + r) % 3), ?_⟩
      simp (disch := omega) only [wipeR, sSeq_e, then_nx, then_rt, then_ex, fin_ok, fin_ex, sSet_e, sOwn_e, sRet_e, sExpr_e, sRetVar_e, retN_sh, retN_ow, retN_ow2, sIf_e, selS_t, selS_f, selE_t, selE_f, stf_f, stf_t, bind_ok, bind_ex, dat_sh, dat_ow, dat_ow2, dat_ex, ofO_some, eVar_e, eOp_e, eUn_e, eIf_e, fB_e, dB_bl, fAnd_e, fOr_e, andT_t, andT_f, andT_x, orT_t, orT_f, orT_x, fNot_e, eAnd_e, eOr_e, andE_t, andE_f, orE_t, orE_f, eNot_e, dN_bl, eCh_e, chN_t, chN_f, eCh3_e, chN2_t, chN2_f, aCons_e, aNil_e, eLst_e, eTup_e, eCall_e, eFn_e, eC_e, sTgt_e, tgtN_some, sPar_e, parN_e, sRaise_e, sNil_e, eTab_e, tabN_e, eIndexT_e, idxN_e, endS_rt, endS_nx, endS_ex, view_sh, view_ow, view_ow2, shs_cons, shs_nil, shO_sh, shO_dead, shO_ow, shO_ow2, setR_c, setR_n, un1_e, unT_e, oNone_e, oSome_e, dI_int, fDef, List.append_nil, List.nil_append, List.cons_append, List.replicate_succ, List.replicate_zero, List.length_cons, List.length_nil, List.set_cons_zero, List.set_cons_succ, List.getElem?_cons_zero, List.getElem?_cons_succ, Nat.sub_zero, Nat.reduceSub, Nat.reduceAdd, Nat.reduceLeDiff, if_true, if_false, ite_true, ite_false, Bool.false_eq_true, decide_true, decide_false, Bool.not_true, Bool.not_false, kSub_int, kAdd_int, kLt_int, kLe_int, kGt_int, kGe_int, kEq_int, kNe_int, kMod_int, kEq_pair, kNe_pair, Bool.and_true, Bool.and_false, Bool.true_and, Bool.false_and, e1, i0, kIx_rowD e2])
  have hmi : eLc2 (iL asL (eVar 6)) [12] un1 [12] (eUn kRev (eVar 12)) [.sh (.scr ns), .sh (.int M), .sh (dM num), shO y3, shO y4, shO y5, .sh (dM (tb 3 3 W)), .dead, .dead, .dead, y10, y11, .dead, .dead] = .ok (.ow2 (dD ((tb 3 3 W).map List.reverse))) := mir_d (by rw [tb_len]; decide) rfl (fun d => rfl)
  obtain ⟨z7, w2⟩ := loopG (ns := ns) (M := M) (num := num) (y3 := y3) (y4 := y4) (y5 := y5) (y6 := .sh (dM (tb 3 3 W))) (y9 := y9) (y10 := y10) (y11 := y11) [tb 3 3 W, (tb 3 3 W).map List.reverse, (tb 3 3 W).reverse] (fun s hs => by
    simp only [List.mem_cons, List.not_mem_nil, or_false] at hs
    rcases hs with rfl | rfl | rfl
    · exact tb_sq
    · exact sq_mir tb_sq
    · exact sq_rev tb_sq) (x7 := .dead)
  have w2' := w2
  rw [List.map_cons, List.map_cons, List.map_cons, List.map_nil] at w2'
  have hse : eLc2 (iR1 (aCons (eVar 8) (aNil))) [12] un1 [12] (eOp kRep (eLst (aCons (eC (.int 7)) (aNil))) (eVar 8)) [.sh (.scr ns), .sh (.int M), .sh (dM num), y3, y4, y5, .sh (dM (tb 3 3 W)), z7, .sh (.int (n : Int)), y9, y10, y11, .dead, .dead] = .ok (.ow2 (dD (tb n n fun _ _ => 7))) :=
    same_d (by omega) (by simp only [iR1_e, sSeq_e, then_nx, then_rt, then_ex, fin_ok, fin_ex, sSet_e, sOwn_e, sRet_e, sExpr_e, sRetVar_e, retN_sh, retN_ow, retN_ow2, sIf_e, selS_t, selS_f, selE_t, selE_f, stf_f, stf_t, bind_ok, bind_ex, dat_sh, dat_ow, dat_ow2, dat_ex, ofO_some, eVar_e, eOp_e, eUn_e, eIf_e, fB_e, dB_bl, fAnd_e, fOr_e, andT_t, andT_f, andT_x, orT_t, orT_f, orT_x, fNot_e, eAnd_e, eOr_e, andE_t, andE_f, orE_t, orE_f, eNot_e, dN_bl, eCh_e, chN_t, chN_f, eCh3_e, chN2_t, chN2_f, aCons_e, aNil_e, eLst_e, eTup_e, eCall_e, eFn_e, eC_e, sTgt_e, tgtN_some, sPar_e, parN_e, sRaise_e, sNil_e, eTab_e, tabN_e, eIndexT_e, idxN_e, endS_rt, endS_nx, endS_ex, view_sh, view_ow, view_ow2, shs_cons, shs_nil, shO_sh, shO_dead, shO_ow, shO_ow2, setR_c, setR_n, un1_e, unT_e, oNone_e, oSome_e, dI_int, fDef, List.append_nil, List.nil_append, List.cons_append, List.replicate_succ, List.replicate_zero, List.length_cons, List.length_nil, List.set_cons_zero, List.set_cons_succ, List.getElem?_cons_zero, List.getElem?_cons_succ, Nat.sub_zero, Nat.reduceSub, Nat.reduceAdd, Nat.reduceLeDiff, if_true, if_false, ite_true, ite_false, Bool.false_eq_true, decide_true, decide_false, Bool.not_true, Bool.not_false, kSub_int, kAdd_int, kLt_int, kLe_int, kGt_int, kGe_int, kEq_int, kNe_int, kMod_int, kEq_pair, kNe_pair, Bool.and_true, Bool.and_false, Bool.true_and, Bool.false_and, rN_int, rg]) (fun r hr => by simp only [wipeR, sSeq_e, then_nx, then_rt, then_ex, fin_ok, fin_ex, sSet_e, sOwn_e, sRet_e, sExpr_e, sRetVar_e, retN_sh, retN_ow, retN_ow2, sIf_e, selS_t, selS_f, selE_t, selE_f, stf_f, stf_t, bind_ok, bind_ex, dat_sh, dat_ow, dat_ow2, dat_ex, ofO_some, eVar_e, eOp_e, eUn_e, eIf_e, fB_e, dB_bl, fAnd_e, fOr_e, andT_t, andT_f, andT_x, orT_t, orT_f, orT_x, fNot_e, eAnd_e, eOr_e, andE_t, andE_f, orE_t, orE_f, eNot_e, dN_bl, eCh_e, chN_t, chN_f, eCh3_e, chN2_t, chN2_f, aCons_e, aNil_e, eLst_e, eTup_e, eCall_e, eFn_e, eC_e, sTgt_e, tgtN_some, sPar_e, parN_e, sRaise_e, sNil_e, eTab_e, tabN_e, eIndexT_e, idxN_e, endS_rt, endS_nx, endS_ex, view_sh, view_ow, view_ow2, shs_cons, shs_nil, shO_sh, shO_dead, shO_ow, shO_ow2, setR_c, setR_n, un1_e, unT_e, oNone_e, oSome_e, dI_int, fDef, List.append_nil, List.nil_append, List.cons_append, List.replicate_succ, List.replicate_zero, List.length_cons, List.length_nil, List.set_cons_zero, List.set_cons_succ, List.getElem?_cons_zero, List.getElem?_cons_succ, Nat.sub_zero, Nat.reduceSub, Nat.reduceAdd, Nat.reduceLeDiff, if_true, if_false, ite_true, ite_false, Bool.false_eq_true, decide_true, decide_false, Bool.not_true, Bool.not_false, kSub_int, kAdd_int, kLt_int, kLe_int, kGt_int, kGe_int, kEq_int, kNe_int, kMod_int, kEq_pair, kNe_pair, Bool.and_true, Bool.and_false, Bool.true_and, Bool.false_and]) (fun r hr => by simp only [wipeR, sSeq_e, then_nx, then_rt, then_ex, fin_ok, fin_ex, sSet_e, sOwn_e, sRet_e, sExpr_e, sRetVar_e, retN_sh, retN_ow, retN_ow2, sIf_e, selS_t, selS_f, selE_t, selE_f, stf_f, stf_t, bind_ok, bind_ex, dat_sh, dat_ow, dat_ow2, dat_ex, ofO_some, eVar_e, eOp_e, eUn_e, eIf_e, fB_e, dB_bl, fAnd_e, fOr_e, andT_t, andT_f, andT_x, orT_t, orT_f, orT_x, fNot_e, eAnd_e, eOr_e, andE_t, andE_f, orE_t, orE_f, eNot_e, dN_bl, eCh_e, chN_t, chN_f, eCh3_e, chN2_t, chN2_f, aCons_e, aNil_e, eLst_e, eTup_e, eCall_e, eFn_e, eC_e, sTgt_e, tgtN_some, sPar_e, parN_e, sRaise_e, sNil_e, eTab_e, tabN_e, eIndexT_e, idxN_e, endS_rt, endS_nx, endS_ex, view_sh, view_ow, view_ow2, shs_cons, shs_nil, shO_sh, shO_dead, shO_ow, shO_ow2, setR_c, setR_n, un1_e, unT_e, oNone_e, oSome_e, dI_int, fDef, List.append_nil, List.nil_append, List.cons_append, List.replicate_succ, List.replicate_zero, List.length_cons, List.length_nil, List.set_cons_zero, List.set_cons_succ, List.getElem?_cons_zero, List.getElem?_cons_succ, Nat.sub_zero, Nat.reduceSub, Nat.reduceAdd, Nat.reduceLeDiff, if_true, if_false, ite_true, ite_false, Bool.false_eq_true, decide_true, decide_false, Bool.not_true, Bool.not_false, kSub_int, kAdd_int, kLt_int, kLe_int, kGt_int, kGe_int, kEq_int, kNe_int, kMod_int, kEq_pair, kNe_pair, Bool.and_true, Bool.and_false, Bool.true_and, Bool.false_and])
  have q1 : f_three [.int 5, .int 3, .int 1] = .ok (.ow2 (dD (three 5 3 1))) := ev_three
  have q2 : kEq (dM (three 5 3 1)) (.lst [.lst [.int 8, .int 1, .int 6], .lst [.int 3, .int 5, .int 7], .lst [.int 4, .int 9, .int 2]]) = some (.sh (.bl true)) := by kernel_rfl
  have g0 : f_law [.scr ns] = endS (g_law [.sh (.scr ns), .dead, .dead, .dead, .dead, .dead, .dead, .dead, .dead, .dead, .dead, .dead, .dead, .dead]) := rfl
  rw [g0]
  unfold g_law
  generalize hGU2 : (fAnd (fB (eOp kGt (eUn kLenSet (eFn f__law_sums (aCons (eVar 2) (aNil)))) (eC (.int 1)))) (fNot (fB (eFn f__law_none (aCons (eVar 2) (aNil)))))) = G2 at g2
  unfold BODY at w1
  have kr : kRev (dM (tb 3 3 W)) = some (.ow ((tb 3 3 W).reverse.map fun r => Da.lst (r.map .int))) := kRev_d
  simp (disch := omega) only [sSeq_e, then_nx, then_rt, then_ex, fin_ok, fin_ex, sSet_e, sOwn_e, sRet_e, sExpr_e, sRetVar_e, retN_sh, retN_ow, retN_ow2, sIf_e, selS_t, selS_f, selE_t, selE_f, stf_f, stf_t, bind_ok, bind_ex, dat_sh, dat_ow, dat_ow2, dat_ex, ofO_some, eVar_e, eOp_e, eUn_e, eIf_e, fB_e, dB_bl, fAnd_e, fOr_e, andT_t, andT_f, andT_x, orT_t, orT_f, orT_x, fNot_e, eAnd_e, eOr_e, andE_t, andE_f, orE_t, orE_f, eNot_e, dN_bl, eCh_e, chN_t, chN_f, eCh3_e, chN2_t, chN2_f, aCons_e, aNil_e, eLst_e, eTup_e, eCall_e, eFn_e, eC_e, sTgt_e, tgtN_some, sPar_e, parN_e, sRaise_e, sNil_e, eTab_e, tabN_e, eIndexT_e, idxN_e, endS_rt, endS_nx, endS_ex, view_sh, view_ow, view_ow2, shs_cons, shs_nil, shO_sh, shO_dead, shO_ow, shO_ow2, setR_c, setR_n, un1_e, unT_e, oNone_e, oSome_e, dI_int, fDef, List.append_nil, List.nil_append, List.cons_append, List.replicate_succ, List.replicate_zero, List.length_cons, List.length_nil, List.set_cons_zero, List.set_cons_succ, List.getElem?_cons_zero, List.getElem?_cons_succ, Nat.sub_zero, Nat.reduceSub, Nat.reduceAdd, Nat.reduceLeDiff, if_true, if_false, ite_true, ite_false, Bool.false_eq_true, decide_true, decide_false, Bool.not_true, Bool.not_false, kSub_int, kAdd_int, kLt_int, kLe_int, kGt_int, kGe_int, kEq_int, kNe_int, kMod_int, kEq_pair, kNe_pair, Bool.and_true, Bool.and_false, Bool.true_and, Bool.false_and, lst_dD, eSl_e, slN_scr, hms, kSum_ints, hM, u3, sFor_e, iL_e, ka, asL_lst]
  rw [w1]
  simp (disch := omega) only [sSeq_e, then_nx, then_rt, then_ex, fin_ok, fin_ex, sSet_e, sOwn_e, sRet_e, sExpr_e, sRetVar_e, retN_sh, retN_ow, retN_ow2, sIf_e, selS_t, selS_f, selE_t, selE_f, stf_f, stf_t, bind_ok, bind_ex, dat_sh, dat_ow, dat_ow2, dat_ex, ofO_some, eVar_e, eOp_e, eUn_e, eIf_e, fB_e, dB_bl, fAnd_e, fOr_e, andT_t, andT_f, andT_x, orT_t, orT_f, orT_x, fNot_e, eAnd_e, eOr_e, andE_t, andE_f, orE_t, orE_f, eNot_e, dN_bl, eCh_e, chN_t, chN_f, eCh3_e, chN2_t, chN2_f, aCons_e, aNil_e, eLst_e, eTup_e, eCall_e, eFn_e, eC_e, sTgt_e, tgtN_some, sPar_e, parN_e, sRaise_e, sNil_e, eTab_e, tabN_e, eIndexT_e, idxN_e, endS_rt, endS_nx, endS_ex, view_sh, view_ow, view_ow2, shs_cons, shs_nil, shO_sh, shO_dead, shO_ow, shO_ow2, setR_c, setR_n, un1_e, unT_e, oNone_e, oSome_e, dI_int, fDef, List.append_nil, List.nil_append, List.cons_append, List.replicate_succ, List.replicate_zero, List.length_cons, List.length_nil, List.set_cons_zero, List.set_cons_succ, List.getElem?_cons_zero, List.getElem?_cons_succ, Nat.sub_zero, Nat.reduceSub, Nat.reduceAdd, Nat.reduceLeDiff, if_true, if_false, ite_true, ite_false, Bool.false_eq_true, decide_true, decide_false, Bool.not_true, Bool.not_false, kSub_int, kAdd_int, kLt_int, kLe_int, kGt_int, kGe_int, kEq_int, kNe_int, kMod_int, kEq_pair, kNe_pair, Bool.and_true, Bool.and_false, Bool.true_and, Bool.false_and, lst_dD, sFor_e, iL_e, asL_lst, g2, s9, s10, s11, hW, hmi, kr, dM_own, w2', hn]
  by_cases e : n = 3
  · have e3 : ((n : Int) == 3) = true := beq_iff_eq.mpr (by omega)
    simp only [sSeq_e, then_nx, then_rt, then_ex, fin_ok, fin_ex, sSet_e, sOwn_e, sRet_e, sExpr_e, sRetVar_e, retN_sh, retN_ow, retN_ow2, sIf_e, selS_t, selS_f, selE_t, selE_f, stf_f, stf_t, bind_ok, bind_ex, dat_sh, dat_ow, dat_ow2, dat_ex, ofO_some, eVar_e, eOp_e, eUn_e, eIf_e, fB_e, dB_bl, fAnd_e, fOr_e, andT_t, andT_f, andT_x, orT_t, orT_f, orT_x, fNot_e, eAnd_e, eOr_e, andE_t, andE_f, orE_t, orE_f, eNot_e, dN_bl, eCh_e, chN_t, chN_f, eCh3_e, chN2_t, chN2_f, aCons_e, aNil_e, eLst_e, eTup_e, eCall_e, eFn_e, eC_e, sTgt_e, tgtN_some, sPar_e, parN_e, sRaise_e, sNil_e, eTab_e, tabN_e, eIndexT_e, idxN_e, endS_rt, endS_nx, endS_ex, view_sh, view_ow, view_ow2, shs_cons, shs_nil, shO_sh, shO_dead, shO_ow, shO_ow2, setR_c, setR_n, un1_e, unT_e, oNone_e, oSome_e, dI_int, fDef, List.append_nil, List.nil_append, List.cons_append, List.replicate_succ, List.replicate_zero, List.length_cons, List.length_nil, List.set_cons_zero, List.set_cons_succ, List.getElem?_cons_zero, List.getElem?_cons_succ, Nat.sub_zero, Nat.reduceSub, Nat.reduceAdd, Nat.reduceLeDiff, if_true, if_false, ite_true, ite_false, Bool.false_eq_true, decide_true, decide_false, Bool.not_true, Bool.not_false, kSub_int, kAdd_int, kLt_int, kLe_int, kGt_int, kGe_int, kEq_int, kNe_int, kMod_int, kEq_pair, kNe_pair, Bool.and_true, Bool.and_false, Bool.true_and, Bool.false_and, lst_dD, e3, q1, q2]
  · have e3 : ((n : Int) == 3) = false := beq_eq_false_iff_ne.mpr (by omega)
    have hno := ev_none (tb_sq (n := n) (f := fun _ _ => 7)) h0 (by omega) (.inl e)
    simp only [sSeq_e, then_nx, then_rt, then_ex, fin_ok, fin_ex, sSet_e, sOwn_e, sRet_e, sExpr_e, sRetVar_e, retN_sh, retN_ow, retN_ow2, sIf_e, selS_t, selS_f, selE_t, selE_f, stf_f, stf_t, bind_ok, bind_ex, dat_sh, dat_ow, dat_ow2, dat_ex, ofO_some, eVar_e, eOp_e, eUn_e, eIf_e, fB_e, dB_bl, fAnd_e, fOr_e, andT_t, andT_f, andT_x, orT_t, orT_f, orT_x, fNot_e, eAnd_e, eOr_e, andE_t, andE_f, orE_t, orE_f, eNot_e, dN_bl, eCh_e, chN_t, chN_f, eCh3_e, chN2_t, chN2_f, aCons_e, aNil_e, eLst_e, eTup_e, eCall_e, eFn_e, eC_e, sTgt_e, tgtN_some, sPar_e, parN_e, sRaise_e, sNil_e, eTab_e, tabN_e, eIndexT_e, idxN_e, endS_rt, endS_nx, endS_ex, view_sh, view_ow, view_ow2, shs_cons, shs_nil, shO_sh, shO_dead, shO_ow, shO_ow2, setR_c, setR_n, un1_e, unT_e, oNone_e, oSome_e, dI_int, fDef, List.append_nil, List.nil_append, List.cons_append, List.replicate_succ, List.replicate_zero, List.length_cons, List.length_nil, List.set_cons_zero, List.set_cons_succ, List.getElem?_cons_zero, List.getElem?_cons_succ, Nat.sub_zero, Nat.reduceSub, Nat.reduceAdd, Nat.reduceLeDiff, if_true, if_false, ite_true, ite_false, Bool.false_eq_true, decide_true, decide_false, Bool.not_true, Bool.not_false, kSub_int, kAdd_int, kLt_int, kLe_int, kGt_int, kGe_int, kEq_int, kNe_int, kMod_int, kEq_pair, kNe_pair, Bool.and_true, Bool.and_false, Bool.true_and, Bool.false_and, lst_dD, e3, hse, hno, q1, q2]
end K05

namespace K05
open PySem PySem.Spec PyProof.Rows L2 G6
def topS (i : Nat) : Stmt := PySem.Challenge.pw_evensquare_k05_whole_threes.main.body.getD i (.Pass ⟨0, 0, 0, 0⟩)
abbrev s_is_number : Stmt := topS 10
theorem sc_is_number : FnScope ["thing"] ["thing"] (defScope s_is_number) := ⟨rfl, rfl, rfl, by decide +kernel, rfl, by decide +kernel, by decide +kernel⟩
abbrev s_asked_square : Stmt := topS 11
theorem sc_asked_square : FnScope ["square", "row", "one"] ["square"] (defScope s_asked_square) := ⟨rfl, rfl, rfl, by decide +kernel, rfl, by decide +kernel, by decide +kernel⟩
abbrev s_lines : Stmt := topS 12
theorem sc_lines : FnScope ["order", "found", "at"] ["order"] (defScope s_lines) := ⟨rfl, rfl, rfl, by decide +kernel, rfl, by decide +kernel, by decide +kernel⟩
abbrev s_sum_along : Stmt := topS 13
theorem sc_sum_along : FnScope ["square", "line", "kind", "at", "last", "step", "row"] ["square", "line"] (defScope s_sum_along) := ⟨rfl, rfl, rfl, by decide +kernel, rfl, by decide +kernel, by decide +kernel⟩
abbrev s_told : Stmt := topS 19
theorem sc_told : FnScope ["square", "first", "total", "line"] ["square"] (defScope s_told) := ⟨rfl, rfl, rfl, by decide +kernel, rfl, by decide +kernel, by decide +kernel⟩
abbrev s_three : Stmt := topS 20
theorem sc_three : FnScope ["middle", "one", "other", "top", "side"] ["middle", "one", "other"] (defScope s_three) := ⟨rfl, rfl, rfl, by decide +kernel, rfl, by decide +kernel, by decide +kernel⟩
abbrev s_parts : Stmt := topS 21
theorem sc_parts : FnScope ["square", "middle"] ["square"] (defScope s_parts) := ⟨rfl, rfl, rfl, by decide +kernel, rfl, by decide +kernel, by decide +kernel⟩
abbrev s__law_lines : Stmt := topS 23
theorem sc__law_lines : FnScope ["_law_order", "_law_found", "_law_at"] ["_law_order"] (defScope s__law_lines) := ⟨rfl, rfl, rfl, by decide +kernel, rfl, by decide +kernel, by decide +kernel⟩
abbrev s__law_sum : Stmt := topS 24
theorem sc__law_sum : FnScope ["_law_square", "_law_line", "_law_kind", "_law_at", "_law_found", "_law_step"] ["_law_square", "_law_line"] (defScope s__law_sum) := ⟨rfl, rfl, rfl, by decide +kernel, rfl, by decide +kernel, by decide +kernel⟩
abbrev s__law_sums : Stmt := topS 25
theorem sc__law_sums : FnScope ["_law_square", "_law_line"] ["_law_square"] (defScope s__law_sums) := ⟨rfl, rfl, rfl, by decide +kernel, rfl, by decide +kernel, by decide +kernel⟩
abbrev s__law_draw : Stmt := topS 26
theorem sc__law_draw : FnScope ["_law_script", "_law_order", "_law_by", "_law_mixed", "_law_most", "_law_found", "_law_left", "_law_row", "_law_line", "_law_column", "_law_at", "_law_number", "_law_spot"] ["_law_script", "_law_order", "_law_by"] (defScope s__law_draw) := ⟨rfl, rfl, rfl, by decide +kernel, rfl, by decide +kernel, by decide +kernel⟩
abbrev s__law_three : Stmt := topS 27
theorem sc__law_three : FnScope ["_law_middle", "_law_one", "_law_other", "_law_top", "_law_bottom"] ["_law_middle", "_law_one", "_law_other"] (defScope s__law_three) := ⟨rfl, rfl, rfl, by decide +kernel, rfl, by decide +kernel, by decide +kernel⟩
abbrev s__law_none : Stmt := topS 28
theorem sc__law_none : FnScope ["_law_square", "error", "_law_others"] ["_law_square"] (defScope s__law_none) := ⟨rfl, rfl, rfl, by decide +kernel, rfl, by decide +kernel, by decide +kernel⟩
abbrev s_law : Stmt := topS 29
theorem sc_law : FnScope ["_law_script", "_law_mixed", "_law_numbers", "_law_middle", "_law_one", "_law_other", "_law_moved", "_law_square", "_law_order", "_law_found", "_law_due", "_law_spot", "_law_row", "_law_column"] ["_law_script"] (defScope s_law) := ⟨rfl, rfl, rfl, by decide +kernel, rfl, by decide +kernel, by decide +kernel⟩
abbrev si_Even : Stmt := inClass (topS 16) 0
theorem sci_Even : FnScope ["self", "total"] ["self", "total"] (defScope si_Even) := ⟨rfl, rfl, rfl, by decide +kernel, rfl, by decide +kernel, by decide +kernel⟩
abbrev si_Unlike : Stmt := inClass (topS 17) 0
theorem sci_Unlike : FnScope ["self", "one", "other"] ["self", "one", "other"] (defScope si_Unlike) := ⟨rfl, rfl, rfl, by decide +kernel, rfl, by decide +kernel, by decide +kernel⟩
structure Tp (T : Tx) (w : World) where
  a_is_number : Addr
  d_is_number : FuncData
  F_is_number : Fun T.K "is_number" "is_number" s_is_number a_is_number d_is_number
  b_is_number : Binds T.K d_is_number ["thing"] []
  g_is_number : T.mg "is_number" = some (.ref a_is_number)
  a_asked_square : Addr
  d_asked_square : FuncData
  F_asked_square : Fun T.K "asked_square" "asked_square" s_asked_square a_asked_square d_asked_square
  b_asked_square : Binds T.K d_asked_square ["square"] []
  g_asked_square : T.mg "asked_square" = some (.ref a_asked_square)
  a_lines : Addr
  d_lines : FuncData
  F_lines : Fun T.K "lines" "lines" s_lines a_lines d_lines
  b_lines : Binds T.K d_lines ["order"] []
  g_lines : T.mg "lines" = some (.ref a_lines)
  a_sum_along : Addr
  d_sum_along : FuncData
  F_sum_along : Fun T.K "sum_along" "sum_along" s_sum_along a_sum_along d_sum_along
  b_sum_along : Binds T.K d_sum_along ["square", "line"] []
  g_sum_along : T.mg "sum_along" = some (.ref a_sum_along)
  a_told : Addr
  d_told : FuncData
  F_told : Fun T.K "told" "told" s_told a_told d_told
  b_told : Binds T.K d_told ["square"] []
  g_told : T.mg "told" = some (.ref a_told)
  a_three : Addr
  d_three : FuncData
  F_three : Fun T.K "three" "three" s_three a_three d_three
  b_three : Binds T.K d_three ["middle", "one", "other"] []
  g_three : T.mg "three" = some (.ref a_three)
  a_parts : Addr
  d_parts : FuncData
  F_parts : Fun T.K "parts" "parts" s_parts a_parts d_parts
  b_parts : Binds T.K d_parts ["square"] []
  g_parts : T.mg "parts" = some (.ref a_parts)
  a__law_lines : Addr
  d__law_lines : FuncData
  F__law_lines : Fun T.K "_law_lines" "_law_lines" s__law_lines a__law_lines d__law_lines
  b__law_lines : Binds T.K d__law_lines ["_law_order"] []
  g__law_lines : T.mg "_law_lines" = some (.ref a__law_lines)
  a__law_sum : Addr
  d__law_sum : FuncData
  F__law_sum : Fun T.K "_law_sum" "_law_sum" s__law_sum a__law_sum d__law_sum
  b__law_sum : Binds T.K d__law_sum ["_law_square", "_law_line"] []
  g__law_sum : T.mg "_law_sum" = some (.ref a__law_sum)
  a__law_sums : Addr
  d__law_sums : FuncData
  F__law_sums : Fun T.K "_law_sums" "_law_sums" s__law_sums a__law_sums d__law_sums
  b__law_sums : Binds T.K d__law_sums ["_law_square"] []
  g__law_sums : T.mg "_law_sums" = some (.ref a__law_sums)
  a__law_draw : Addr
  d__law_draw : FuncData
  F__law_draw : Fun T.K "_law_draw" "_law_draw" s__law_draw a__law_draw d__law_draw
  b__law_draw : Binds T.K d__law_draw ["_law_script", "_law_order", "_law_by"] []
  g__law_draw : T.mg "_law_draw" = some (.ref a__law_draw)
  a__law_three : Addr
  d__law_three : FuncData
  F__law_three : Fun T.K "_law_three" "_law_three" s__law_three a__law_three d__law_three
  b__law_three : Binds T.K d__law_three ["_law_middle", "_law_one", "_law_other"] []
  g__law_three : T.mg "_law_three" = some (.ref a__law_three)
  a__law_none : Addr
  d__law_none : FuncData
  F__law_none : Fun T.K "_law_none" "_law_none" s__law_none a__law_none d__law_none
  b__law_none : Binds T.K d__law_none ["_law_square"] []
  g__law_none : T.mg "_law_none" = some (.ref a__law_none)
  a_law : Addr
  d_law : FuncData
  F_law : Fun T.K "law" "law" s_law a_law d_law
  b_law : Binds T.K d_law ["_law_script"] []
  g_law : T.mg "law" = some (.ref a_law)
  c_SquareError : Addr
  g_SquareError : T.mg "SquareError" = some (.ref c_SquareError)
  x_SquareError : PySem.W.excIn T.K c_SquareError [.type "ValueError", .type "Exception", .type "BaseException", .type "object"] "ValueError.__new__" = true
  k_SquareError : PySem.W.keepIn T.K (.ref c_SquareError) = true
  s_SquareError : PySem.W.subIn T.K (.ref c_SquareError) (.type "BaseException") = some true
  t_SquareError : PySem.W.typeIn T.K (.ref c_SquareError) = some (.type "type")
  c_BadOrder : Addr
  g_BadOrder : T.mg "BadOrder" = some (.ref c_BadOrder)
  x_BadOrder : PySem.W.excIn T.K c_BadOrder [.type "ValueError", .type "Exception", .type "BaseException", .type "object"] "ValueError.__new__" = true
  k_BadOrder : PySem.W.keepIn T.K (.ref c_BadOrder) = true
  s_BadOrder : PySem.W.subIn T.K (.ref c_BadOrder) (.type "BaseException") = some true
  t_BadOrder : PySem.W.typeIn T.K (.ref c_BadOrder) = some (.type "type")
  c_BadPlace : Addr
  g_BadPlace : T.mg "BadPlace" = some (.ref c_BadPlace)
  x_BadPlace : PySem.W.excIn T.K c_BadPlace [.type "ValueError", .type "Exception", .type "BaseException", .type "object"] "ValueError.__new__" = true
  k_BadPlace : PySem.W.keepIn T.K (.ref c_BadPlace) = true
  s_BadPlace : PySem.W.subIn T.K (.ref c_BadPlace) (.type "BaseException") = some true
  t_BadPlace : PySem.W.typeIn T.K (.ref c_BadPlace) = some (.type "type")
  c_BadNumber : Addr
  g_BadNumber : T.mg "BadNumber" = some (.ref c_BadNumber)
  x_BadNumber : PySem.W.excIn T.K c_BadNumber [.type "ValueError", .type "Exception", .type "BaseException", .type "object"] "ValueError.__new__" = true
  k_BadNumber : PySem.W.keepIn T.K (.ref c_BadNumber) = true
  s_BadNumber : PySem.W.subIn T.K (.ref c_BadNumber) (.type "BaseException") = some true
  t_BadNumber : PySem.W.typeIn T.K (.ref c_BadNumber) = some (.type "type")
  c_BadSquare : Addr
  g_BadSquare : T.mg "BadSquare" = some (.ref c_BadSquare)
  x_BadSquare : PySem.W.excIn T.K c_BadSquare [.type "ValueError", .type "Exception", .type "BaseException", .type "object"] "ValueError.__new__" = true
  k_BadSquare : PySem.W.keepIn T.K (.ref c_BadSquare) = true
  s_BadSquare : PySem.W.subIn T.K (.ref c_BadSquare) (.type "BaseException") = some true
  t_BadSquare : PySem.W.typeIn T.K (.ref c_BadSquare) = some (.type "type")
  c_NotEven : Addr
  g_NotEven : T.mg "NotEven" = some (.ref c_NotEven)
  x_NotEven : PySem.W.excIn T.K c_NotEven [.type "ValueError", .type "Exception", .type "BaseException", .type "object"] "ValueError.__new__" = true
  k_NotEven : PySem.W.keepIn T.K (.ref c_NotEven) = true
  s_NotEven : PySem.W.subIn T.K (.ref c_NotEven) (.type "BaseException") = some true
  t_NotEven : PySem.W.typeIn T.K (.ref c_NotEven) = some (.type "type")
  c_TooGreat : Addr
  g_TooGreat : T.mg "TooGreat" = some (.ref c_TooGreat)
  x_TooGreat : PySem.W.excIn T.K c_TooGreat [.type "ValueError", .type "Exception", .type "BaseException", .type "object"] "ValueError.__new__" = true
  k_TooGreat : PySem.W.keepIn T.K (.ref c_TooGreat) = true
  s_TooGreat : PySem.W.subIn T.K (.ref c_TooGreat) (.type "BaseException") = some true
  t_TooGreat : PySem.W.typeIn T.K (.ref c_TooGreat) = some (.type "type")
  ea : T.ea = none
  es : ∀ c : Str, (["BadOrder", "BadPlace", "BadNumber", "BadSquare", "NotEven", "TooGreat"] : List Str).contains c = true → ∀ C, T.mg c = some (.ref C) → PySem.W.exmOne T.K (.ref C) (.ref c_SquareError) = some true ∧ ExcC T.K C ∧ PySem.W.kitOne T.K (.ref C) (.ref c_BadPlace) = some (c == "BadPlace") ∧ PySem.W.kitOne T.K (.ref C) (.ref c_BadOrder) = some (c == "BadOrder") ∧ PySem.W.kitOne T.K (.ref C) (.ref c_BadNumber) = some (c == "BadNumber") ∧ PySem.W.kitOne T.K (.ref C) (.ref c_TooGreat) = some (c == "TooGreat") ∧ PySem.W.kitOne T.K (.ref C) (.ref c_BadSquare) = some (c == "BadSquare") ∧ PySem.W.kitOne T.K (.ref C) (.ref c_NotEven) = some (c == "NotEven") ∧ True
  ai_Even : Addr
  di_Even : FuncData
  Fi_Even : Fun T.K "__init__" "Even.__init__" si_Even ai_Even di_Even
  bi_Even : Binds T.K di_Even ["self", "total"] []
  K_Even : Mk T.K T.ce ai_Even
  cl_Even : Cls T.K T.ce
  i_Even : IsC T.K T.ce
  g_Even : T.mg "Even" = some (.ref T.ce)
  n_Even_total : NoAttr T.K T.ce "total"
  ai_Unlike : Addr
  di_Unlike : FuncData
  Fi_Unlike : Fun T.K "__init__" "Unlike.__init__" si_Unlike ai_Unlike di_Unlike
  bi_Unlike : Binds T.K di_Unlike ["self", "one", "other"] []
  K_Unlike : Mk T.K T.cu ai_Unlike
  cl_Unlike : Cls T.K T.cu
  i_Unlike : IsC T.K T.cu
  g_Unlike : T.mg "Unlike" = some (.ref T.cu)
  n_Unlike_one : NoAttr T.K T.cu "one"
  n_Unlike_other : NoAttr T.K T.cu "other"
  k1_Even : PySem.W.kitOne T.K (.ref T.ce) (.ref T.ce) = some true
  k2_Even : PySem.W.kitOne T.K (.ref T.cu) (.ref T.ce) = some false
  m_isinstance : T.mg "isinstance" = none
  m_int : T.mg "int" = none
  m_bool : T.mg "bool" = none
  m_list : T.mg "list" = none
  m_len : T.mg "len" = none
  m_all : T.mg "all" = none
  m_range : T.mg "range" = none
  m_sum : T.mg "sum" = none
  m_any : T.mg "any" = none
  m_set : T.mg "set" = none
  m_tuple : T.mg "tuple" = none
section
variable {P : Program} {w : World} {T : Tx} {base : Heap}
theorem ok_init_Even (Z : Tp T w) : FnOk P w T.K T.mg base CX0 1 Z.ai_Even Z.di_Even ["self", "total"] (spInit1 T.ce) := by
  refine Z.Fi_Even.ok sci_Even (fun vs H Q E h => ?_) (fun cdv A outer s H vs Q E hr h => ?_)
  · obtain ⟨p, dx, v, rfl, _⟩ := h; rfl
  · obtain ⟨p, dx, v, rfl, hp, k⟩ := h
    exact ⟨_, pss_one (ps_fld (pv 0) (pv 1) rfl), ⟨v, rfl, .ref p, rfl, p, T.ce, dx, [], rfl, hp, Z.cl_Even, Z.n_Even_total, by decide, k _ upd_same fun b hb => upd_ne hb⟩⟩
theorem ok_init_Unlike (Z : Tp T w) : FnOk P w T.K T.mg base CX0 1 Z.ai_Unlike Z.di_Unlike ["self", "one", "other"] (spInit2 T.cu) := by
  refine Z.Fi_Unlike.ok sci_Unlike (fun vs H Q E h => ?_) (fun cdv A outer s H vs Q E hr h => ?_)
  · obtain ⟨p, dx, v, u, rfl, _⟩ := h; rfl
  · obtain ⟨p, dx, v, u, rfl, hp, k⟩ := h
    refine ⟨_, pss_cons (ps_fld (pv 0) (pv 1) rfl) (pss_one (ps_fld (pv 0) (pv 2) rfl)), ⟨v, rfl, .ref p, rfl, p, T.cu, dx, [], rfl, hp, Z.cl_Unlike, Z.n_Unlike_one, by decide, u, rfl, .ref p, rfl, p, T.cu, dx, _, rfl, upd_same, Z.cl_Unlike, Z.n_Unlike_other, (by show 1 < 1000; decide), k _ ?_ fun b hb => by rw [upd_ne hb, upd_ne hb]⟩⟩
    rw [putF2]
    exact upd_same
theorem ok_is_number (Z : Tp T w) : FnOk P w T.K T.mg base (L2N.CX P w) 1 Z.a_is_number Z.d_is_number ["thing"] (spS T 1 f_is_number) :=
  okD (k := 0) Z.F_is_number sc_is_number fun cdv A outer s H E hr => ss_one (s_ret (full := false) (e_and (e_isi (t := .int) rfl rfl Z.m_isinstance (e_var 0) rfl Z.m_int (by decide +kernel)) (e_one (e_not (e_isi (t := .bool) rfl rfl Z.m_isinstance (e_var 0) rfl Z.m_bool (by decide +kernel))))))
theorem ok_lines (Z : Tp T w) : FnOk P w T.K T.mg base (L2N.CX P w) 1 Z.a_lines Z.d_lines ["order"] (spS T 1 f_lines) :=
  okD (k := 0) Z.F_lines sc_lines fun cdv A outer s H E hr => ss_cons (s_set (full := false) (i := 1) sc_lines.nd rfl (by first | exact Or.inl rfl | exact Or.inr rfl) (e_op rd_add op_addA (e_lc (own := [("at", 2)]) rfl sc_lines.nd (i_range1 rfl Z.m_range (a_cons (e_var 0) (a_nil))) (blkOk_by (N := ["order", "found", "at"]) (sc := defScope s_lines) (by decide +kernel)) tg_name (by decide) (fun _ _ _ _ _ => (pg_name (i := 2) sc_lines.nd rfl (by first | exact Or.inl rfl | exact Or.inr rfl))) (fun _ _ _ _ _ => e_tup (a_cons (e_str) (a_cons (e_var 2) (a_nil))))) (e_lc (own := [("at", 2)]) rfl sc_lines.nd (i_range1 rfl Z.m_range (a_cons (e_var 0) (a_nil))) (blkOk_by (N := ["order", "found", "at"]) (sc := defScope s_lines) (by decide +kernel)) tg_name (by decide) (fun _ _ _ _ _ => (pg_name (i := 2) sc_lines.nd rfl (by first | exact Or.inl rfl | exact Or.inr rfl))) (fun _ _ _ _ _ => e_tup (a_cons (e_str) (a_cons (e_var 2) (a_nil)))))))
    (ss_one (s_ret (full := false) (e_op rd_add op_addA (e_var 1) (e_lst (a_cons (e_tup (a_cons (e_str) (a_cons (e_int) (a_nil)))) (a_cons (e_tup (a_cons (e_str) (a_cons (e_int) (a_nil)))) (a_nil)))))))
theorem ok_sum_along (Z : Tp T w) : FnOk P w T.K T.mg base (L2N.CX P w) 1 Z.a_sum_along Z.d_sum_along ["square", "line"] (spS T 2 f_sum_along) :=
  okD (k := 0) Z.F_sum_along sc_sum_along fun cdv A outer s H E hr => ss_cons (s_tgt (full := false) (e_var 1) (pg_tup rfl (pgs_cons (pg_name (i := 2) sc_sum_along.nd rfl (by first | exact Or.inl rfl | exact Or.inr rfl)) (pgs_cons (pg_name (i := 3) sc_sum_along.nd rfl (by first | exact Or.inl rfl | exact Or.inr rfl)) pgs_nil))) (tg_tup (tgs_cons (tgs_cons tgs_nil))))
    (ss_cons (s_set (full := false) (i := 4) sc_sum_along.nd rfl (by first | exact Or.inl rfl | exact Or.inr rfl) (e_op rd_sub op_sub (e_cb rd_len call_len_seq rfl Z.m_len (by decide +kernel) (a_cons (e_var 0) (a_nil))) (e_int)))
    (ss_cons (s_if (t_cmp rd_eq (op_eqD (hu64 hr)) (e_var 2) (e_str) (nomark _))
    (ss_one (s_ret (full := false) (e_cb rd_sum (cr_sum rfl) rfl Z.m_sum (by decide +kernel) (a_cons (e_ix rfl (e_var 0) (e_var 3)) (a_nil))))) (ss_nil))
    (ss_cons (s_if (t_cmp rd_eq (op_eqD (hu64 hr)) (e_var 2) (e_str) (nomark _))
    (ss_one (s_ret (full := false) (e_cb rd_sum (cr_sum rfl) rfl Z.m_sum (by decide +kernel) (a_cons (e_lc (own := [("row", 6)]) rfl sc_sum_along.nd (i_list rfl (e_var 0)) (blkOk_by (N := ["square", "line", "kind", "at", "last", "step", "row"]) (sc := defScope s_sum_along) (by decide +kernel)) tg_name (by decide) (fun _ _ _ _ _ => (pg_name (i := 6) sc_sum_along.nd rfl (by first | exact Or.inl rfl | exact Or.inr rfl))) (fun _ _ _ _ _ => e_ix rfl (e_var 6) (e_var 3))) (a_nil))))) (ss_nil))
    (ss_cons (s_if (t_cmp rd_eq (op_eqD (hu64 hr)) (e_var 2) (e_str) (nomark _))
    (ss_one (s_ret (full := false) (e_cb rd_sum (cr_sum rfl) rfl Z.m_sum (by decide +kernel) (a_cons (e_lc (own := [("step", 5)]) rfl sc_sum_along.nd (i_range1 rfl Z.m_range (a_cons (e_op rd_add op_addA (e_var 4) (e_int)) (a_nil))) (blkOk_by (N := ["square", "line", "kind", "at", "last", "step", "row"]) (sc := defScope s_sum_along) (by decide +kernel)) tg_name (by decide) (fun _ _ _ _ _ => (pg_name (i := 5) sc_sum_along.nd rfl (by first | exact Or.inl rfl | exact Or.inr rfl))) (fun _ _ _ _ _ => e_ix rfl (e_ix rfl (e_var 0) (e_var 5)) (e_var 5))) (a_nil))))) (ss_nil))
    (ss_one (s_ret (full := false) (e_cb rd_sum (cr_sum rfl) rfl Z.m_sum (by decide +kernel) (a_cons (e_lc (own := [("step", 5)]) rfl sc_sum_along.nd (i_range1 rfl Z.m_range (a_cons (e_op rd_add op_addA (e_var 4) (e_int)) (a_nil))) (blkOk_by (N := ["square", "line", "kind", "at", "last", "step", "row"]) (sc := defScope s_sum_along) (by decide +kernel)) tg_name (by decide) (fun _ _ _ _ _ => (pg_name (i := 5) sc_sum_along.nd rfl (by first | exact Or.inl rfl | exact Or.inr rfl))) (fun _ _ _ _ _ => e_ix rfl (e_ix rfl (e_var 0) (e_op rd_sub op_sub (e_var 4) (e_var 5))) (e_var 5))) (a_nil)))))))))
theorem ok__law_lines (Z : Tp T w) : FnOk P w T.K T.mg base (L2N.CX P w) 1 Z.a__law_lines Z.d__law_lines ["_law_order"] (spS T 1 f__law_lines) :=
  okD (k := 0) Z.F__law_lines sc__law_lines fun cdv A outer s H E hr => ss_cons (s_set (full := false) (i := 1) sc__law_lines.nd rfl (by first | exact Or.inl rfl | exact Or.inr rfl) (e_op rd_add op_addA (e_lc (own := [("_law_at", 2)]) rfl sc__law_lines.nd (i_range1 rfl Z.m_range (a_cons (e_var 0) (a_nil))) (blkOk_by (N := ["_law_order", "_law_found", "_law_at"]) (sc := defScope s__law_lines) (by decide +kernel)) tg_name (by decide) (fun _ _ _ _ _ => (pg_name (i := 2) sc__law_lines.nd rfl (by first | exact Or.inl rfl | exact Or.inr rfl))) (fun _ _ _ _ _ => e_tup (a_cons (e_str) (a_cons (e_var 2) (a_nil))))) (e_lc (own := [("_law_at", 2)]) rfl sc__law_lines.nd (i_range1 rfl Z.m_range (a_cons (e_var 0) (a_nil))) (blkOk_by (N := ["_law_order", "_law_found", "_law_at"]) (sc := defScope s__law_lines) (by decide +kernel)) tg_name (by decide) (fun _ _ _ _ _ => (pg_name (i := 2) sc__law_lines.nd rfl (by first | exact Or.inl rfl | exact Or.inr rfl))) (fun _ _ _ _ _ => e_tup (a_cons (e_str) (a_cons (e_var 2) (a_nil)))))))
    (ss_one (s_ret (full := false) (e_op rd_add op_addA (e_var 1) (e_lst (a_cons (e_tup (a_cons (e_str) (a_cons (e_int) (a_nil)))) (a_cons (e_tup (a_cons (e_str) (a_cons (e_int) (a_nil)))) (a_nil)))))))
theorem ok__law_sum (Z : Tp T w) : FnOk P w T.K T.mg base (L2N.CX P w) 1 Z.a__law_sum Z.d__law_sum ["_law_square", "_law_line"] (spS T 2 f__law_sum) :=
  okD (k := 0) Z.F__law_sum sc__law_sum fun cdv A outer s H E hr => ss_cons (s_tgt (full := false) (e_var 1) (pg_tup rfl (pgs_cons (pg_name (i := 2) sc__law_sum.nd rfl (by first | exact Or.inl rfl | exact Or.inr rfl)) (pgs_cons (pg_name (i := 3) sc__law_sum.nd rfl (by first | exact Or.inl rfl | exact Or.inr rfl)) pgs_nil))) (tg_tup (tgs_cons (tgs_cons tgs_nil))))
    (ss_cons (s_set (full := false) (i := 4) sc__law_sum.nd rfl (by first | exact Or.inl rfl | exact Or.inr rfl) (e_int))
    (ss_cons (s_for (passes_of rfl) rfl (i_range1 rfl Z.m_range (a_cons (e_cb rd_len call_len_seq rfl Z.m_len (by decide +kernel) (a_cons (e_var 0) (a_nil))) (a_nil))) (pg_name (i := 5) sc__law_sum.nd rfl (by first | exact Or.inl rfl | exact Or.inr rfl)) tg_name
    (ss_one (s_if (t_cmp rd_eq (op_eqD (hu64 hr)) (e_var 2) (e_str) (nomark _))
    (ss_one (s_set (full := false) (i := 4) sc__law_sum.nd rfl (by first | exact Or.inl rfl | exact Or.inr rfl) (e_op rd_add op_addA (e_var 4) (e_ix rfl (e_ix rfl (e_var 0) (e_var 3)) (e_var 5))))) (ss_one (s_if (t_cmp rd_eq (op_eqD (hu64 hr)) (e_var 2) (e_str) (nomark _))
    (ss_one (s_set (full := false) (i := 4) sc__law_sum.nd rfl (by first | exact Or.inl rfl | exact Or.inr rfl) (e_op rd_add op_addA (e_var 4) (e_ix rfl (e_ix rfl (e_var 0) (e_var 5)) (e_var 3))))) (ss_one (s_set (full := false) (i := 4) sc__law_sum.nd rfl (by first | exact Or.inl rfl | exact Or.inr rfl) (e_op rd_add op_addA (e_var 4) (e_ix rfl (e_ix rfl (e_var 0) (e_if (t_cmp rd_eq (op_eqD (hu64 hr)) (e_var 2) (e_str) (nomark _)) (e_var 5) (e_op rd_sub op_sub (e_op rd_sub op_sub (e_cb rd_len call_len_seq rfl Z.m_len (by decide +kernel) (a_cons (e_var 0) (a_nil))) (e_int)) (e_var 5)))) (e_var 5))))))))))
    (ss_one (s_ret (full := false) (e_var 4)))))
theorem ok__law_draw (Z : Tp T w) : FnOk P w T.K T.mg base (L2N.CX P w) 1 Z.a__law_draw Z.d__law_draw ["_law_script", "_law_order", "_law_by"] (spS T 3 f__law_draw) :=
  okD (k := 0) Z.F__law_draw sc__law_draw fun cdv A outer s H E hr => ss_cons (s_set (full := false) (i := 3) sc__law_draw.nd rfl (by first | exact Or.inl rfl | exact Or.inr rfl) (e_op rd_add op_addA (e_cb rd_sum (cr_sum rfl) rfl Z.m_sum (by decide +kernel) (a_cons (e_var 0) (a_nil))) (e_var 2)))
    (ss_cons (s_set (full := false) (i := 4) sc__law_draw.nd rfl (by first | exact Or.inl rfl | exact Or.inr rfl) (e_ix rfl (e_tup (a_cons (e_int) (a_cons (e_int) (a_cons (e_int) (a_cons (e_op rd_pow op_pow (e_int) (e_int)) (a_nil)))))) (e_op rd_mod op_mod (e_op rd_div op_fdivW (e_var 3) (e_int)) (e_int))))
    (ss_cons (s_own (full := false) (i := 5) sc__law_draw.nd rfl (by first | exact Or.inl rfl | exact Or.inr rfl) (e_lst (a_nil)))
    (ss_cons (s_own (full := false) (i := 6) sc__law_draw.nd rfl (by first | exact Or.inl rfl | exact Or.inr rfl) (e_ct rd_list call_list_of rfl Z.m_list (by decide +kernel) (a_cons (e_var 0) (a_nil))))
    (ss_cons (s_for (passes_of rfl) rfl (i_range1 rfl Z.m_range (a_cons (e_var 1) (a_nil))) (pg_name (i := 7) sc__law_draw.nd rfl (by first | exact Or.inl rfl | exact Or.inr rfl)) tg_name
    (ss_cons (s_own (full := false) (i := 8) sc__law_draw.nd rfl (by first | exact Or.inl rfl | exact Or.inr rfl) (e_lst (a_nil)))
    (ss_cons (s_for (passes_of rfl) rfl (i_range1 rfl Z.m_range (a_cons (e_var 1) (a_nil))) (pg_name (i := 9) sc__law_draw.nd rfl (by first | exact Or.inl rfl | exact Or.inr rfl)) tg_name
    (ss_cons (s_set (full := false) (i := 10) sc__law_draw.nd rfl (by first | exact Or.inl rfl | exact Or.inr rfl) (e_op rd_add op_addA (e_op rd_mul op_mulA (e_var 7) (e_var 1)) (e_var 9)))
    (ss_cons (s_set (full := false) (i := 11) sc__law_draw.nd rfl (by first | exact Or.inl rfl | exact Or.inr rfl) (e_op rd_div op_fdivW (e_op rd_mul op_mulA (e_op rd_mul op_mulA (e_var 3) (e_var 10)) (e_op rd_add op_addA (e_op rd_add op_addA (e_var 10) (e_var 2)) (e_int))) (e_int)))
    (ss_cons (s_if (t_cmp rd_ne (op_neD (hu64 hr)) (e_var 0) (e_lst (a_nil)) (nomark _))
    (ss_cons (s_set (full := false) (i := 12) sc__law_draw.nd rfl (by first | exact Or.inl rfl | exact Or.inr rfl) (e_op rd_mod op_mod (e_op rd_add op_addA (e_var 10) (e_var 2)) (e_cb rd_len call_len_seq rfl Z.m_len (by decide +kernel) (a_cons (e_var 0) (a_nil)))))
    (ss_cons (s_set (full := true) (i := 11) sc__law_draw.nd rfl (by first | exact Or.inl rfl | exact Or.inr rfl) (e_ix rfl (e_var 6) (e_var 12)))
    (ss_cons (s_if (t_cmp rd_lt op_lt (e_var 11) (e_op rd_pow op_pow (e_int) (e_int)) (nomark _))
    (ss_one (s_set (full := false) (i := 11) sc__law_draw.nd rfl (by first | exact Or.inl rfl | exact Or.inr rfl) (e_op rd_mul op_mulA (e_op rd_mod op_mod (e_op rd_mul op_mulA (e_op rd_add op_addA (e_var 11) (e_op rd_mul op_mulA (e_int) (e_var 10))) (e_int)) (e_int)) (e_op rd_add op_addA (e_op rd_add op_addA (e_var 11) (e_var 10)) (e_var 2))))) (ss_nil))
    (ss_one (s_putI (full := true) (ps_asg (e_op rd_div op_fdivW (e_ix rfl (e_var 6) (e_var 12)) (e_var 4)) (pg_sub (pv 6) (e_var 12) set_list))))))) (ss_nil))
    (ss_one (s_app (full := false) (ps_expr (pe_bm PySem.F.plainAttrs_list PySem.F.slot_list_append PySem.F.type_list_append mt_append (pv 8) (pa_cons (e_op rd_sub op_sub (e_op rd_mod op_mod (e_var 11) (e_var 4)) (e_op rd_div op_fdivW (e_var 4) (e_int))) pa_nil)))))))))
    (ss_one (s_move (ps_expr (pe_bm PySem.F.plainAttrs_list PySem.F.slot_list_append PySem.F.type_list_append mt_append (pv 5) (pa_cons (pv 8) pa_nil))))))))
    (ss_one (s_retVar 5))))))
theorem ok__law_three (Z : Tp T w) : FnOk P w T.K T.mg base (L2N.CX P w) 1 Z.a__law_three Z.d__law_three ["_law_middle", "_law_one", "_law_other"] (spS T 3 f__law_three) :=
  okD (k := 0) Z.F__law_three sc__law_three fun cdv A outer s H E hr => ss_cons (s_set (full := false) (i := 3) sc__law_three.nd rfl (by first | exact Or.inl rfl | exact Or.inr rfl) (e_lst (a_cons (e_op rd_add op_addA (e_var 0) (e_var 1)) (a_cons (e_op rd_sub op_sub (e_op rd_sub op_sub (e_var 0) (e_var 1)) (e_var 2)) (a_cons (e_op rd_add op_addA (e_var 0) (e_var 2)) (a_nil))))))
    (ss_cons (s_set (full := false) (i := 4) sc__law_three.nd rfl (by first | exact Or.inl rfl | exact Or.inr rfl) (e_lst (a_cons (e_op rd_sub op_sub (e_var 0) (e_var 2)) (a_cons (e_op rd_add op_addA (e_op rd_add op_addA (e_var 0) (e_var 1)) (e_var 2)) (a_cons (e_op rd_sub op_sub (e_var 0) (e_var 1)) (a_nil))))))
    (ss_one (s_ret (full := false) (e_lst (a_cons (e_var 3) (a_cons (e_lst (a_cons (e_op rd_add op_addA (e_op rd_sub op_sub (e_var 0) (e_var 1)) (e_var 2)) (a_cons (e_var 0) (a_cons (e_op rd_sub op_sub (e_op rd_add op_addA (e_var 0) (e_var 1)) (e_var 2)) (a_nil))))) (a_cons (e_var 4) (a_nil))))))))
theorem ok_asked_square (Z : Tp T w) : FnOk P w T.K T.mg base (L2N.CX P w) 2 Z.a_asked_square Z.d_asked_square ["square"] (spS T 1 f_asked_square) :=
  okD (k := 1) Z.F_asked_square sc_asked_square fun cdv A outer s H E hr => ss_cons (s_if (PW.pt (w_or (t_not (t_val (e_isi (t := .list) rfl rfl Z.m_isinstance (e_var 0) rfl Z.m_list (by decide +kernel)))) (w_or1 (t_cmp rd_eq (op_eqD (hu64 hr)) (e_var 0) (e_lst (a_nil)) (nomark _)))))
    (ss_one (s_raise rfl rfl (L2N.takes_of rfl rfl rfl rfl) PySem.F.excBase_ValueError Z.x_BadSquare Z.g_BadSquare Z.k_BadSquare (raises_own Z.s_BadSquare Z.t_BadSquare) rfl)) (ss_nil))
    (ss_one (s_for (passes_of rfl) rfl (i_list rfl (e_var 0)) (pg_name (i := 1) sc_asked_square.nd rfl (by first | exact Or.inl rfl | exact Or.inr rfl)) tg_name
    (ss_one (s_if (PW.pt (w_or (t_not (t_val (e_isi (t := .list) rfl rfl Z.m_isinstance (e_var 1) rfl Z.m_list (by decide +kernel)))) (w_or (t_cmp rd_ne (op_neD (hu64 hr)) (e_cb rd_len call_len_seq rfl Z.m_len (by decide +kernel) (a_cons (e_var 1) (a_nil))) (e_cb rd_len call_len_seq rfl Z.m_len (by decide +kernel) (a_cons (e_var 0) (a_nil))) (nomark _)) (w_or1 (t_not (t_val (e_cb rd_all (cr_all rfl) rfl Z.m_all (by decide +kernel) (a_cons (e_lc (own := [("one", 2)]) rfl sc_asked_square.nd (i_list rfl (e_var 1)) (blkOk_by (N := ["square", "row", "one"]) (sc := defScope s_asked_square) (by decide +kernel)) tg_name (by decide) (fun _ _ _ _ _ => (pg_name (i := 2) sc_asked_square.nd rfl (by first | exact Or.inl rfl | exact Or.inr rfl))) (fun _ _ _ _ _ => e_call (ok_is_number Z) (hr.mono (by decide)) rfl Z.g_is_number Z.F_is_number.kp Z.b_is_number takesN (a_cons (e_var 2) (a_nil)) (len_cons len_nil))) (a_nil)))))))))
    (ss_one (s_raise rfl rfl (L2N.takes_of rfl rfl rfl rfl) PySem.F.excBase_ValueError Z.x_BadSquare Z.g_BadSquare Z.k_BadSquare (raises_own Z.s_BadSquare Z.t_BadSquare) rfl)) (ss_nil)))))
theorem ok_three (Z : Tp T w) : FnOk P w T.K T.mg base (L2N.CX P w) 2 Z.a_three Z.d_three ["middle", "one", "other"] (spS T 3 f_three) :=
  okD (k := 1) Z.F_three sc_three fun cdv A outer s H E hr => ss_cons (s_if (PW.pt (w_or (t_not (t_val (e_call (ok_is_number Z) (hr.mono (by decide)) rfl Z.g_is_number Z.F_is_number.kp Z.b_is_number (L2N.takes_of rfl rfl rfl rfl) (a_cons (e_var 0) (a_nil)) (len_cons len_nil)))) (w_or (t_not (t_val (e_call (ok_is_number Z) (hr.mono (by decide)) rfl Z.g_is_number Z.F_is_number.kp Z.b_is_number (L2N.takes_of rfl rfl rfl rfl) (a_cons (e_var 1) (a_nil)) (len_cons len_nil)))) (w_or1 (t_not (t_val (e_call (ok_is_number Z) (hr.mono (by decide)) rfl Z.g_is_number Z.F_is_number.kp Z.b_is_number (L2N.takes_of rfl rfl rfl rfl) (a_cons (e_var 2) (a_nil)) (len_cons len_nil))))))))
    (ss_one (s_raise rfl rfl (L2N.takes_of rfl rfl rfl rfl) PySem.F.excBase_ValueError Z.x_BadNumber Z.g_BadNumber Z.k_BadNumber (raises_own Z.s_BadNumber Z.t_BadNumber) rfl)) (ss_nil))
    (ss_cons (s_own (full := false) (i := 3) sc_three.nd rfl (by first | exact Or.inl rfl | exact Or.inr rfl) (e_lst (a_cons (e_op rd_add op_addA (e_var 0) (e_var 1)) (a_cons (e_op rd_sub op_sub (e_op rd_sub op_sub (e_var 0) (e_var 1)) (e_var 2)) (a_cons (e_op rd_add op_addA (e_var 0) (e_var 2)) (a_nil))))))
    (ss_cons (s_own (full := false) (i := 4) sc_three.nd rfl (by first | exact Or.inl rfl | exact Or.inr rfl) (e_lst (a_cons (e_op rd_add op_addA (e_op rd_sub op_sub (e_var 0) (e_var 1)) (e_var 2)) (a_cons (e_var 0) (a_cons (e_op rd_sub op_sub (e_op rd_add op_addA (e_var 0) (e_var 1)) (e_var 2)) (a_nil))))))
    (ss_one (s_ret3 (pe_lst (pa_cons (pv 3) (pa_cons (pv 4) (pa_cons (e_lst (a_cons (e_op rd_sub op_sub (e_var 0) (e_var 2)) (a_cons (e_op rd_add op_addA (e_op rd_add op_addA (e_var 0) (e_var 1)) (e_var 2)) (a_cons (e_op rd_sub op_sub (e_var 0) (e_var 1)) (a_nil))))) pa_nil))))))))
theorem ok__law_sums (Z : Tp T w) : FnOk P w T.K T.mg base (L2N.CX P w) 2 Z.a__law_sums Z.d__law_sums ["_law_square"] (spS T 1 f__law_sums) :=
  okD (k := 1) Z.F__law_sums sc__law_sums fun cdv A outer s H E hr => ss_one (s_ret (full := false) (e_lc (own := [("_law_line", 1)]) rfl sc__law_sums.nd (i_list rfl (e_call (ok__law_lines Z) (hr.mono (by decide)) rfl Z.g__law_lines Z.F__law_lines.kp Z.b__law_lines (L2N.takes_of rfl rfl rfl rfl) (a_cons (e_cb rd_len call_len_seq rfl Z.m_len (by decide +kernel) (a_cons (e_var 0) (a_nil))) (a_nil)) (len_cons len_nil))) (blkOk_by (N := ["_law_square", "_law_line"]) (sc := defScope s__law_sums) (by decide +kernel)) tg_name (by decide) (fun _ _ _ _ _ => (pg_name (i := 1) sc__law_sums.nd rfl (by first | exact Or.inl rfl | exact Or.inr rfl))) (fun _ _ _ _ _ => e_call (ok__law_sum Z) (hr.mono (by decide)) rfl Z.g__law_sum Z.F__law_sum.kp Z.b__law_sum takesN (a_cons (e_var 0) (a_cons (e_var 1) (a_nil))) (len_cons (len_cons len_nil)))))
theorem ok_told (Z : Tp T w) : FnOk P w T.K T.mg base (L2N.CX P w) 3 Z.a_told Z.d_told ["square"] (spS T 1 f_told) :=
  okD (k := 2) Z.F_told sc_told fun cdv A outer s H E hr => ss_cons (s_expr (e_call (ok_asked_square Z) (hr.mono (by decide)) rfl Z.g_asked_square Z.F_asked_square.kp Z.b_asked_square (L2N.takes_of rfl rfl rfl rfl) (a_cons (e_var 0) (a_nil)) (len_cons len_nil)))
    (ss_cons (s_set (full := false) (i := 1) sc_told.nd rfl (by first | exact Or.inl rfl | exact Or.inr rfl) (e_tup (a_cons (e_str) (a_cons (e_int) (a_nil)))))
    (ss_cons (s_set (full := false) (i := 2) sc_told.nd rfl (by first | exact Or.inl rfl | exact Or.inr rfl) (e_call (ok_sum_along Z) (hr.mono (by decide)) rfl Z.g_sum_along Z.F_sum_along.kp Z.b_sum_along (L2N.takes_of rfl rfl rfl rfl) (a_cons (e_var 0) (a_cons (e_var 1) (a_nil))) (len_cons (len_cons len_nil))))
    (ss_cons (s_for (passes_of rfl) rfl (i_list rfl (e_call (ok_lines Z) (hr.mono (by decide)) rfl Z.g_lines Z.F_lines.kp Z.b_lines (L2N.takes_of rfl rfl rfl rfl) (a_cons (e_cb rd_len call_len_seq rfl Z.m_len (by decide +kernel) (a_cons (e_var 0) (a_nil))) (a_nil)) (len_cons len_nil))) (pg_name (i := 3) sc_told.nd rfl (by first | exact Or.inl rfl | exact Or.inr rfl)) tg_name
    (ss_one (s_if (t_cmp rd_ne (op_neD (hu64 hr)) (e_call (ok_sum_along Z) (hr.mono (by decide)) rfl Z.g_sum_along Z.F_sum_along.kp Z.b_sum_along (L2N.takes_of rfl rfl rfl rfl) (a_cons (e_var 0) (a_cons (e_var 3) (a_nil))) (len_cons (len_cons len_nil))) (e_var 2) (nomark _))
    (ss_one (s_ret (full := false) (e_unl Z.K_Unlike (ok_init_Unlike Z) (hr.mono (by decide)) rfl Z.g_Unlike Z.bi_Unlike (a_cons (e_var 1) (a_cons (e_var 3) (a_nil)))))) (ss_nil))))
    (ss_one (s_ret (full := false) (e_even Z.K_Even (ok_init_Even Z) (hr.mono (by decide)) rfl Z.g_Even Z.bi_Even (a_cons (e_var 2) (a_nil))))))))
theorem ok_parts (Z : Tp T w) : FnOk P w T.K T.mg base (L2N.CX P w) 4 Z.a_parts Z.d_parts ["square"] (spS T 1 f_parts) :=
  okD (k := 3) Z.F_parts sc_parts fun cdv A outer s H E hr => ss_cons (s_expr (e_call (ok_asked_square Z) (hr.mono (by decide)) rfl Z.g_asked_square Z.F_asked_square.kp Z.b_asked_square (L2N.takes_of rfl rfl rfl rfl) (a_cons (e_var 0) (a_nil)) (len_cons len_nil)))
    (ss_cons (s_if (PW.pt (w_or (t_cmp rd_ne (op_neD (hu64 hr)) (e_cb rd_len call_len_seq rfl Z.m_len (by decide +kernel) (a_cons (e_var 0) (a_nil))) (e_int) (nomark _)) (w_or1 (t_not (t_val (e_isC (b1 := true) (b2 := false) rfl Z.i_Even Z.i_Unlike Z.k1_Even Z.k2_Even rfl Z.m_isinstance (e_call (ok_told Z) (hr.mono (by decide)) rfl Z.g_told Z.F_told.kp Z.b_told (L2N.takes_of rfl rfl rfl rfl) (a_cons (e_var 0) (a_nil)) (len_cons len_nil)) rfl Z.g_Even))))))
    (ss_one (s_raise rfl rfl (L2N.takes_of rfl rfl rfl rfl) PySem.F.excBase_ValueError Z.x_NotEven Z.g_NotEven Z.k_NotEven (raises_own Z.s_NotEven Z.t_NotEven) rfl)) (ss_nil))
    (ss_cons (s_set (full := false) (i := 1) sc_parts.nd rfl (by first | exact Or.inl rfl | exact Or.inr rfl) (e_ix rfl (e_ix rfl (e_var 0) (e_int)) (e_int)))
    (ss_one (s_ret (full := false) (e_tup (a_cons (e_var 1) (a_cons (e_op rd_sub op_sub (e_ix rfl (e_ix rfl (e_var 0) (e_int)) (e_int)) (e_var 1)) (a_cons (e_op rd_sub op_sub (e_ix rfl (e_ix rfl (e_var 0) (e_int)) (e_int)) (e_var 1)) (a_nil)))))))))
theorem ok__law_none (Z : Tp T w) : FnOk P w T.K T.mg base (L2N.CX P w) 5 Z.a__law_none Z.d__law_none ["_law_square"] (spS T 1 f__law_none) :=
  okD (k := 4) Z.F__law_none sc__law_none fun cdv A outer s H E hr => ss_cons (s_try (i := 1) Z.ea rfl rfl rfl sc__law_none.nd rfl rfl ⟨rfl, by decide, .inl Z.g_SquareError⟩ (L2N.takes_of rfl rfl rfl rfl) (fun c hc C hm => (Z.es c hc C hm).1) (fun W pn xe tk => ss_one (s_expr (e_call (ok_parts Z) (hr.mono (by decide)) rfl Z.g_parts Z.F_parts.kp Z.b_parts tk (a_cons (e_var 0) (a_nil)) (len_cons len_nil))))
    (fun c hc C hm a oe pn hz hfd => ss_cons (s_set (full := false) (i := 2) sc__law_none.nd rfl (by first | exact Or.inl rfl | exact Or.inr rfl) (e_lst (a_cons (e_isE (Z.es c hc C hm).2.1 hz.zc hfd (Z.es c hc C hm).2.2.2.2.1 rfl Z.m_isinstance (e_var 1) rfl Z.g_BadNumber) (a_cons (e_isE (Z.es c hc C hm).2.1 hz.zc hfd (Z.es c hc C hm).2.2.2.1 rfl Z.m_isinstance (e_var 1) rfl Z.g_BadOrder) (a_cons (e_isE (Z.es c hc C hm).2.1 hz.zc hfd (Z.es c hc C hm).2.2.1 rfl Z.m_isinstance (e_var 1) rfl Z.g_BadPlace) (a_nil))))))
    (ss_cons (s_set (full := false) (i := 2) sc__law_none.nd rfl (by first | exact Or.inl rfl | exact Or.inr rfl) (e_op rd_add op_addA (e_var 2) (e_lst (a_cons (e_isE (Z.es c hc C hm).2.1 hz.zc hfd (Z.es c hc C hm).2.2.2.2.2.2.1 rfl Z.m_isinstance (e_var 1) rfl Z.g_BadSquare) (a_cons (e_isE (Z.es c hc C hm).2.1 hz.zc hfd (Z.es c hc C hm).2.2.2.2.2.1 rfl Z.m_isinstance (e_var 1) rfl Z.g_TooGreat) (a_nil))))))
    (ss_one (s_ret (full := false) (e_and (e_isE (Z.es c hc C hm).2.1 hz.zc hfd (Z.es c hc C hm).2.2.2.2.2.2.2.1 rfl Z.m_isinstance (e_var 1) rfl Z.g_NotEven) (e_one (e_not (e_cb rd_any (cr_anyH (hot_suite hz hfd)) rfl Z.m_any (by decide +kernel) (a_cons (e_var 2) (a_nil)))))))))))
    (ss_one (s_ret (full := false) (e_bl)))
theorem ok_law (Z : Tp T w) : FnOk P w T.K T.mg base (L2N.CX P w) 6 Z.a_law Z.d_law ["_law_script"] (spS T 1 f_law) :=
  okD (k := 5) Z.F_law sc_law fun cdv A outer s H E hr => ss_cons (s_set (full := false) (i := 1) sc_law.nd rfl (by first | exact Or.inl rfl | exact Or.inr rfl) (e_cb rd_sum (cr_sum rfl) rfl Z.m_sum (by decide +kernel) (a_cons (e_sl rfl (e_var 0) (o_none) (o_some (e_int))) (a_nil))))
    (ss_cons (s_set (full := false) (i := 2) sc_law.nd rfl (by first | exact Or.inl rfl | exact Or.inr rfl) (e_call (ok__law_draw Z) (hr.mono (by decide)) rfl Z.g__law_draw Z.F__law_draw.kp Z.b__law_draw (L2N.takes_of rfl rfl rfl rfl) (a_cons (e_sl rfl (e_var 0) (o_none) (o_some (e_int))) (a_cons (e_int) (a_cons (e_int) (a_nil)))) (len_cons (len_cons (len_cons len_nil)))))
    (ss_cons (s_for (passes_of rfl) rfl (i_list rfl (e_op rd_add op_addA (e_var 2) (e_lst (a_cons (e_lst (a_cons (e_int) (a_cons (e_int) (a_cons (e_int) (a_nil))))) (a_cons (e_lst (a_cons (e_int) (a_cons (e_int) (a_cons (e_int) (a_nil))))) (a_nil)))))) (pg_lst rfl (pgs_cons (pg_name (i := 3) sc_law.nd rfl (by first | exact Or.inl rfl | exact Or.inr rfl)) (pgs_cons (pg_name (i := 4) sc_law.nd rfl (by first | exact Or.inl rfl | exact Or.inr rfl)) (pgs_cons (pg_name (i := 5) sc_law.nd rfl (by first | exact Or.inl rfl | exact Or.inr rfl)) pgs_nil)))) (tg_lst (tgs_cons (tgs_cons (tgs_cons tgs_nil))))
    (ss_cons (s_own (full := false) (i := 9) sc_law.nd rfl (by first | exact Or.inl rfl | exact Or.inr rfl) (e_call (ok_three Z) (hr.mono (by decide)) rfl Z.g_three Z.F_three.kp Z.b_three (L2N.takes_of rfl rfl rfl rfl) (a_cons (e_var 3) (a_cons (e_var 4) (a_cons (e_var 5) (a_nil)))) (len_cons (len_cons (len_cons len_nil)))))
    (ss_cons (s_set (full := false) (i := 10) sc_law.nd rfl (by first | exact Or.inl rfl | exact Or.inr rfl) (e_call (ok__law_three Z) (hr.mono (by decide)) rfl Z.g__law_three Z.F__law_three.kp Z.b__law_three (L2N.takes_of rfl rfl rfl rfl) (a_cons (e_var 3) (a_cons (e_var 4) (a_cons (e_var 5) (a_nil)))) (len_cons (len_cons (len_cons len_nil)))))
    (ss_cons (s_if (PW.pt (w_or (t_not (t_val (e_isi (t := .list) rfl rfl Z.m_isinstance (e_var 9) rfl Z.m_list (by decide +kernel)))) (w_or (t_cmp rd_ne (op_neD (hu64 hr)) (e_var 9) (e_var 10) (nomark _)) (w_or1 (t_cmp rd_ne (op_neD (hu64 hr)) (e_lenSet rfl rfl Z.m_len rfl Z.m_set (e_call (ok__law_sums Z) (hr.mono (by decide)) rfl Z.g__law_sums Z.F__law_sums.kp Z.b__law_sums (L2N.takes_of rfl rfl rfl rfl) (a_cons (e_var 9) (a_nil)) (len_cons len_nil))) (e_int) (nomark _))))))
    (ss_one (s_ret (full := false) (e_bl))) (ss_nil))
    (ss_cons (s_if (PW.pt (w_or (t_cmp rd_ne (op_neD (hu64 hr)) (e_call (ok_parts Z) (hr.mono (by decide)) rfl Z.g_parts Z.F_parts.kp Z.b_parts (L2N.takes_of rfl rfl rfl rfl) (a_cons (e_var 9) (a_nil)) (len_cons len_nil)) (e_tup (a_cons (e_var 3) (a_cons (e_var 4) (a_cons (e_var 5) (a_nil))))) (nomark _)) (w_or1 (t_not (t_val (e_isi (t := .tuple) rfl rfl Z.m_isinstance (e_call (ok_parts Z) (hr.mono (by decide)) rfl Z.g_parts Z.F_parts.kp Z.b_parts (L2N.takes_of rfl rfl rfl rfl) (a_cons (e_var 9) (a_nil)) (len_cons len_nil)) rfl Z.m_tuple (by decide +kernel)))))))
    (ss_one (s_ret (full := false) (e_bl))) (ss_nil))
    (ss_cons (s_set (full := false) (i := 11) sc_law.nd rfl (by first | exact Or.inl rfl | exact Or.inr rfl) (e_op rd_mod op_mod (e_op rd_div op_fdivW (e_var 1) (e_int)) (e_int)))
    (ss_cons (s_putII (full := true) (ps_asg (e_op rd_add op_addA (e_op rd_add op_addA (e_ix rfl (e_ix rfl (e_var 9) (e_op rd_mod op_mod (e_var 1) (e_int))) (e_var 11)) (e_int)) (e_op rd_mod op_mod (e_var 1) (e_int))) (pg_sub (pe_ix ix_list (pv 9) (e_op rd_mod op_mod (e_var 1) (e_int)) (fun _ _ => rfl)) (e_var 11) set_list)))
    (ss_one (s_if (PW.pt (w_or (t_not (t_val (e_call (ok__law_none Z) (hr.mono (by decide)) rfl Z.g__law_none Z.F__law_none.kp Z.b__law_none (L2N.takes_of rfl rfl rfl rfl) (a_cons (e_var 9) (a_nil)) (len_cons len_nil)))) (w_or1 (t_cmp rd_ne (op_neD (hu64 hr)) (e_call (ok_three Z) (hr.mono (by decide)) rfl Z.g_three Z.F_three.kp Z.b_three (L2N.takes_of rfl rfl rfl rfl) (a_cons (e_var 3) (a_cons (e_var 4) (a_cons (e_var 5) (a_nil)))) (len_cons (len_cons (len_cons len_nil)))) (e_var 10) (nomark _)))))
    (ss_one (s_ret (full := false) (e_bl))) (ss_nil))))))))))
    (ss_cons (s_if (PW.pt (w_and (t_cmp rd_gt op_gt (e_lenSet rfl rfl Z.m_len rfl Z.m_set (e_call (ok__law_sums Z) (hr.mono (by decide)) rfl Z.g__law_sums Z.F__law_sums.kp Z.b__law_sums (L2N.takes_of rfl rfl rfl rfl) (a_cons (e_var 2) (a_nil)) (len_cons len_nil))) (e_int) (nomark _)) (w_and1 (t_not (t_val (e_call (ok__law_none Z) (hr.mono (by decide)) rfl Z.g__law_none Z.F__law_none.kp Z.b__law_none (L2N.takes_of rfl rfl rfl rfl) (a_cons (e_var 2) (a_nil)) (len_cons len_nil)))))))
    (ss_one (s_ret (full := false) (e_bl))) (ss_nil))
    (ss_cons (s_lc (own := [("_law_row", 12)]) (i := 6) (set_core (full := false)) (lc_core2 tg_name (by decide)) rfl sc_law.nd rfl rfl (sw_true rfl rfl rfl (by decide +kernel)) (i_range1 rfl Z.m_range (a_cons (e_int) (a_nil))) (blkOk_by (N := ["_law_script", "_law_mixed", "_law_numbers", "_law_middle", "_law_one", "_law_other", "_law_moved", "_law_square", "_law_order", "_law_found", "_law_due", "_law_spot", "_law_row", "_law_column"]) (sc := defScope s_law) (by decide +kernel)) (fun _ _ _ _ _ => (pg_name (i := 12) sc_law.nd rfl (by first | exact Or.inl rfl | exact Or.inr rfl))) (fun _ _ _ _ _ => e_lc (own := [("_law_column", 13)]) rfl sc_law.nd (i_range1 rfl Z.m_range (a_cons (e_int) (a_nil))) (blkOk_by (by kernel_rfl)) tg_name (by decide) (fun _ _ _ _ _ => (pg_name (i := 13) sc_law.nd rfl (by first | exact Or.inl rfl | exact Or.inr rfl))) (fun _ _ _ _ _ => e_ix rfl (e_ix rfl (e_var 2) (e_int)) (e_op rd_mod op_mod (e_op rd_add op_addA (e_var 13) (e_var 12)) (e_int)))))
    (ss_cons (s_for (passes_of rfl) rfl (i_list rfl (e_lst (a_cons (e_var 6) (a_cons (e_lc2 (own := [("_law_row", 12)]) rfl sc_law.nd (i_list rfl (e_var 6)) (blkOk_by (N := ["_law_script", "_law_mixed", "_law_numbers", "_law_middle", "_law_one", "_law_other", "_law_moved", "_law_square", "_law_order", "_law_found", "_law_due", "_law_spot", "_law_row", "_law_column"]) (sc := defScope s_law) (by decide +kernel)) tg_name (by decide) (fun _ _ _ _ _ => (pg_name (i := 12) sc_law.nd rfl (by first | exact Or.inl rfl | exact Or.inr rfl))) (fun _ _ _ _ _ => e_rev rfl (e_var 12))) (a_cons (e_rev rfl (e_var 6)) (a_nil)))))) (pg_name (i := 7) sc_law.nd rfl (by first | exact Or.inl rfl | exact Or.inr rfl)) tg_name
    (ss_one (s_if (PW.pt (w_and (t_cmp rd_gt op_gt (e_lenSet rfl rfl Z.m_len rfl Z.m_set (e_call (ok__law_sums Z) (hr.mono (by decide)) rfl Z.g__law_sums Z.F__law_sums.kp Z.b__law_sums (L2N.takes_of rfl rfl rfl rfl) (a_cons (e_var 7) (a_nil)) (len_cons len_nil))) (e_int) (nomark _)) (w_and1 (t_not (t_val (e_call (ok__law_none Z) (hr.mono (by decide)) rfl Z.g__law_none Z.F__law_none.kp Z.b__law_none (L2N.takes_of rfl rfl rfl rfl) (a_cons (e_var 7) (a_nil)) (len_cons len_nil)))))))
    (ss_one (s_ret (full := false) (e_bl))) (ss_nil))))
    (ss_cons (s_set (full := false) (i := 8) sc_law.nd rfl (by first | exact Or.inl rfl | exact Or.inr rfl) (e_op rd_add op_addA (e_int) (e_op rd_mod op_mod (e_var 1) (e_int))))
    (ss_cons (s_if (PW.pt (w_and (t_cmp rd_ne (op_neD (hu64 hr)) (e_var 8) (e_int) (nomark _)) (w_and1 (t_not (t_val (e_call (ok__law_none Z) (hr.mono (by decide)) rfl Z.g__law_none Z.F__law_none.kp Z.b__law_none (L2N.takes_of rfl rfl rfl rfl) (a_cons (e_lc2 (own := [("_law_row", 12)]) rfl sc_law.nd (i_range1 rfl Z.m_range (a_cons (e_var 8) (a_nil))) (blkOk_by (N := ["_law_script", "_law_mixed", "_law_numbers", "_law_middle", "_law_one", "_law_other", "_law_moved", "_law_square", "_law_order", "_law_found", "_law_due", "_law_spot", "_law_row", "_law_column"]) (sc := defScope s_law) (by decide +kernel)) tg_name (by decide) (fun _ _ _ _ _ => (pg_name (i := 12) sc_law.nd rfl (by first | exact Or.inl rfl | exact Or.inr rfl))) (fun _ _ _ _ _ => e_op rd_rep op_rep (e_lst (a_cons (e_int) (a_nil))) (e_var 8))) (a_nil)) (len_cons len_nil)))))))
    (ss_one (s_ret (full := false) (e_bl))) (ss_nil))
    (ss_one (s_ret (full := false) (e_cmp rd_eq (op_eqD (hu64 hr)) (e_call (ok_three Z) (hr.mono (by decide)) rfl Z.g_three Z.F_three.kp Z.b_three (L2N.takes_of rfl rfl rfl rfl) (a_cons (e_int) (a_cons (e_int) (a_cons (e_int) (a_nil)))) (len_cons (len_cons (len_cons len_nil)))) (e_lst (a_cons (e_lst (a_cons (e_int) (a_cons (e_int) (a_cons (e_int) (a_nil))))) (a_cons (e_lst (a_cons (e_int) (a_cons (e_int) (a_cons (e_int) (a_nil))))) (a_cons (e_lst (a_cons (e_int) (a_cons (e_int) (a_cons (e_int) (a_nil))))) (a_nil))))) (nomark _)))))))))))
end
theorem all_mk {P : Program} {w : World} {K : PySem.W.Frag} {h : Heap} {mg : Str → Option Value} {fa : Addr} (X : K.In h) (G : h.Ns mainGlobals mg) (hfa : mg "law" = some (.ref fa))
    {C_Even : Addr}
    {C_Unlike : Addr}
    {ad_initEven : Addr} {od_initEven an_initEven : Option Addr} {sl_initEven : Array (Option Value)} {oc_initEven kV_initEven dc_initEven pm_initEven cd_initEven ct_initEven : Value}
    {ad_initUnlike : Addr} {od_initUnlike an_initUnlike : Option Addr} {sl_initUnlike : Array (Option Value)} {oc_initUnlike kV_initUnlike dc_initUnlike pm_initUnlike cd_initUnlike ct_initUnlike : Value}
    {ad_is_number : Addr} {od_is_number an_is_number : Option Addr} {sl_is_number : Array (Option Value)} {oc_is_number kV_is_number dc_is_number pm_is_number cd_is_number ct_is_number : Value}
    {ad_asked_square : Addr} {od_asked_square an_asked_square : Option Addr} {sl_asked_square : Array (Option Value)} {oc_asked_square kV_asked_square dc_asked_square pm_asked_square cd_asked_square ct_asked_square : Value}
    {ad_lines : Addr} {od_lines an_lines : Option Addr} {sl_lines : Array (Option Value)} {oc_lines kV_lines dc_lines pm_lines cd_lines ct_lines : Value}
    {ad_sum_along : Addr} {od_sum_along an_sum_along : Option Addr} {sl_sum_along : Array (Option Value)} {oc_sum_along kV_sum_along dc_sum_along pm_sum_along cd_sum_along ct_sum_along : Value}
    {ad_told : Addr} {od_told an_told : Option Addr} {sl_told : Array (Option Value)} {oc_told kV_told dc_told pm_told cd_told ct_told : Value}
    {ad_three : Addr} {od_three an_three : Option Addr} {sl_three : Array (Option Value)} {oc_three kV_three dc_three pm_three cd_three ct_three : Value}
    {ad_parts : Addr} {od_parts an_parts : Option Addr} {sl_parts : Array (Option Value)} {oc_parts kV_parts dc_parts pm_parts cd_parts ct_parts : Value}
    {ad__law_lines : Addr} {od__law_lines an__law_lines : Option Addr} {sl__law_lines : Array (Option Value)} {oc__law_lines kV__law_lines dc__law_lines pm__law_lines cd__law_lines ct__law_lines : Value}
    {ad__law_sum : Addr} {od__law_sum an__law_sum : Option Addr} {sl__law_sum : Array (Option Value)} {oc__law_sum kV__law_sum dc__law_sum pm__law_sum cd__law_sum ct__law_sum : Value}
    {ad__law_sums : Addr} {od__law_sums an__law_sums : Option Addr} {sl__law_sums : Array (Option Value)} {oc__law_sums kV__law_sums dc__law_sums pm__law_sums cd__law_sums ct__law_sums : Value}
    {ad__law_draw : Addr} {od__law_draw an__law_draw : Option Addr} {sl__law_draw : Array (Option Value)} {oc__law_draw kV__law_draw dc__law_draw pm__law_draw cd__law_draw ct__law_draw : Value}
    {ad__law_three : Addr} {od__law_three an__law_three : Option Addr} {sl__law_three : Array (Option Value)} {oc__law_three kV__law_three dc__law_three pm__law_three cd__law_three ct__law_three : Value}
    {ad__law_none : Addr} {od__law_none an__law_none : Option Addr} {sl__law_none : Array (Option Value)} {oc__law_none kV__law_none dc__law_none pm__law_none cd__law_none ct__law_none : Value}
    {ad_law : Addr} {od_law an_law : Option Addr} {sl_law : Array (Option Value)} {oc_law kV_law dc_law pm_law cd_law ct_law : Value}
    {C_SquareError : Addr}
    {C_BadOrder : Addr}
    {C_BadPlace : Addr}
    {C_BadNumber : Addr}
    {C_BadSquare : Addr}
    {C_NotEven : Addr}
    {C_TooGreat : Addr}
    (a_Even : PySem.W.nsIn K mainGlobals "Even" = some (some (.ref C_Even)))
    (a_Unlike : PySem.W.nsIn K mainGlobals "Unlike" = some (some (.ref C_Unlike)))
    (ai_Even : PySem.W.findIn K (.ref C_Even) "__init__" = some (some (.ref ad_initEven)))
    (ii_Even : PySem.W.isFn K (.ref ad_initEven) = true)
    (li_Even : K.lookup ad_initEven = some ⟨oc_initEven, od_initEven, .func (PySem.W.fnOf "__init__" "Even.__init__" (defArgs si_Even) (defBody si_Even) (defScope si_Even) .none kV_initEven dc_initEven pm_initEven an_initEven cd_initEven ct_initEven), sl_initEven⟩)
    (ci_Even : PySem.W.codeIn K cd_initEven "Even.__init__" = true)
    (ki_Even : PySem.W.keepIn K (.ref ad_initEven) = true)
    (pg_Even : PySem.W.plainGet K C_Even Str.empty = true)
    (hd_Even : PySem.W.hasDictIn K C_Even = true)
    (po_Even : PySem.W.plainOver K C_Even = true)
    (sa_Even : PySem.W.findIn K (.ref C_Even) "__setattr__" = some (some (.builtin "object.__setattr__")))
    (mk_Even : PySem.W.makesIn K C_Even = true)
    (kc_Even : PySem.W.keepIn K (.ref C_Even) = true)
    (cc_Even : PySem.W.findIn K (.ref C_Even) "__class__" = some (some (.builtin "object.__class__")))
    (mr_Even : PySem.W.mroIn K C_Even (.type "object") = some true)
    (n_Even_total : PySem.W.findIn K (.ref C_Even) "total" = some none)
    (ai_Unlike : PySem.W.findIn K (.ref C_Unlike) "__init__" = some (some (.ref ad_initUnlike)))
    (ii_Unlike : PySem.W.isFn K (.ref ad_initUnlike) = true)
    (li_Unlike : K.lookup ad_initUnlike = some ⟨oc_initUnlike, od_initUnlike, .func (PySem.W.fnOf "__init__" "Unlike.__init__" (defArgs si_Unlike) (defBody si_Unlike) (defScope si_Unlike) .none kV_initUnlike dc_initUnlike pm_initUnlike an_initUnlike cd_initUnlike ct_initUnlike), sl_initUnlike⟩)
    (ci_Unlike : PySem.W.codeIn K cd_initUnlike "Unlike.__init__" = true)
    (ki_Unlike : PySem.W.keepIn K (.ref ad_initUnlike) = true)
    (pg_Unlike : PySem.W.plainGet K C_Unlike Str.empty = true)
    (hd_Unlike : PySem.W.hasDictIn K C_Unlike = true)
    (po_Unlike : PySem.W.plainOver K C_Unlike = true)
    (sa_Unlike : PySem.W.findIn K (.ref C_Unlike) "__setattr__" = some (some (.builtin "object.__setattr__")))
    (mk_Unlike : PySem.W.makesIn K C_Unlike = true)
    (kc_Unlike : PySem.W.keepIn K (.ref C_Unlike) = true)
    (cc_Unlike : PySem.W.findIn K (.ref C_Unlike) "__class__" = some (some (.builtin "object.__class__")))
    (mr_Unlike : PySem.W.mroIn K C_Unlike (.type "object") = some true)
    (n_Unlike_one : PySem.W.findIn K (.ref C_Unlike) "one" = some none)
    (n_Unlike_other : PySem.W.findIn K (.ref C_Unlike) "other" = some none)
    (og : PySem.W.specialIn K (.builtin "object.__class__") "__get__" = some (some (.builtin "getset_descriptor.__get__")))
    (ot : PySem.W.takesIn K (.builtin "object.__class__") = some true)
    (k1_Even : PySem.W.kitOne K (.ref C_Even) (.ref C_Even) = some true)
    (k2_Even : PySem.W.kitOne K (.ref C_Unlike) (.ref C_Even) = some false)
    (a_is_number : PySem.W.nsIn K mainGlobals "is_number" = some (some (.ref ad_is_number)))
    (l_is_number : K.lookup ad_is_number = some ⟨oc_is_number, od_is_number, .func (PySem.W.fnOf "is_number" "is_number" (defArgs s_is_number) (defBody s_is_number) (defScope s_is_number) .none kV_is_number dc_is_number pm_is_number an_is_number cd_is_number ct_is_number), sl_is_number⟩)
    (c_is_number : PySem.W.codeIn K cd_is_number "is_number" = true)
    (k_is_number : PySem.W.keepIn K (.ref ad_is_number) = true)
    (a_asked_square : PySem.W.nsIn K mainGlobals "asked_square" = some (some (.ref ad_asked_square)))
    (l_asked_square : K.lookup ad_asked_square = some ⟨oc_asked_square, od_asked_square, .func (PySem.W.fnOf "asked_square" "asked_square" (defArgs s_asked_square) (defBody s_asked_square) (defScope s_asked_square) .none kV_asked_square dc_asked_square pm_asked_square an_asked_square cd_asked_square ct_asked_square), sl_asked_square⟩)
    (c_asked_square : PySem.W.codeIn K cd_asked_square "asked_square" = true)
    (k_asked_square : PySem.W.keepIn K (.ref ad_asked_square) = true)
    (a_lines : PySem.W.nsIn K mainGlobals "lines" = some (some (.ref ad_lines)))
    (l_lines : K.lookup ad_lines = some ⟨oc_lines, od_lines, .func (PySem.W.fnOf "lines" "lines" (defArgs s_lines) (defBody s_lines) (defScope s_lines) .none kV_lines dc_lines pm_lines an_lines cd_lines ct_lines), sl_lines⟩)
    (c_lines : PySem.W.codeIn K cd_lines "lines" = true)
    (k_lines : PySem.W.keepIn K (.ref ad_lines) = true)
    (a_sum_along : PySem.W.nsIn K mainGlobals "sum_along" = some (some (.ref ad_sum_along)))
    (l_sum_along : K.lookup ad_sum_along = some ⟨oc_sum_along, od_sum_along, .func (PySem.W.fnOf "sum_along" "sum_along" (defArgs s_sum_along) (defBody s_sum_along) (defScope s_sum_along) .none kV_sum_along dc_sum_along pm_sum_along an_sum_along cd_sum_along ct_sum_along), sl_sum_along⟩)
    (c_sum_along : PySem.W.codeIn K cd_sum_along "sum_along" = true)
    (k_sum_along : PySem.W.keepIn K (.ref ad_sum_along) = true)
    (a_told : PySem.W.nsIn K mainGlobals "told" = some (some (.ref ad_told)))
    (l_told : K.lookup ad_told = some ⟨oc_told, od_told, .func (PySem.W.fnOf "told" "told" (defArgs s_told) (defBody s_told) (defScope s_told) .none kV_told dc_told pm_told an_told cd_told ct_told), sl_told⟩)
    (c_told : PySem.W.codeIn K cd_told "told" = true)
    (k_told : PySem.W.keepIn K (.ref ad_told) = true)
    (a_three : PySem.W.nsIn K mainGlobals "three" = some (some (.ref ad_three)))
    (l_three : K.lookup ad_three = some ⟨oc_three, od_three, .func (PySem.W.fnOf "three" "three" (defArgs s_three) (defBody s_three) (defScope s_three) .none kV_three dc_three pm_three an_three cd_three ct_three), sl_three⟩)
    (c_three : PySem.W.codeIn K cd_three "three" = true)
    (k_three : PySem.W.keepIn K (.ref ad_three) = true)
    (a_parts : PySem.W.nsIn K mainGlobals "parts" = some (some (.ref ad_parts)))
    (l_parts : K.lookup ad_parts = some ⟨oc_parts, od_parts, .func (PySem.W.fnOf "parts" "parts" (defArgs s_parts) (defBody s_parts) (defScope s_parts) .none kV_parts dc_parts pm_parts an_parts cd_parts ct_parts), sl_parts⟩)
    (c_parts : PySem.W.codeIn K cd_parts "parts" = true)
    (k_parts : PySem.W.keepIn K (.ref ad_parts) = true)
    (a__law_lines : PySem.W.nsIn K mainGlobals "_law_lines" = some (some (.ref ad__law_lines)))
    (l__law_lines : K.lookup ad__law_lines = some ⟨oc__law_lines, od__law_lines, .func (PySem.W.fnOf "_law_lines" "_law_lines" (defArgs s__law_lines) (defBody s__law_lines) (defScope s__law_lines) .none kV__law_lines dc__law_lines pm__law_lines an__law_lines cd__law_lines ct__law_lines), sl__law_lines⟩)
    (c__law_lines : PySem.W.codeIn K cd__law_lines "_law_lines" = true)
    (k__law_lines : PySem.W.keepIn K (.ref ad__law_lines) = true)
    (a__law_sum : PySem.W.nsIn K mainGlobals "_law_sum" = some (some (.ref ad__law_sum)))
    (l__law_sum : K.lookup ad__law_sum = some ⟨oc__law_sum, od__law_sum, .func (PySem.W.fnOf "_law_sum" "_law_sum" (defArgs s__law_sum) (defBody s__law_sum) (defScope s__law_sum) .none kV__law_sum dc__law_sum pm__law_sum an__law_sum cd__law_sum ct__law_sum), sl__law_sum⟩)
    (c__law_sum : PySem.W.codeIn K cd__law_sum "_law_sum" = true)
    (k__law_sum : PySem.W.keepIn K (.ref ad__law_sum) = true)
    (a__law_sums : PySem.W.nsIn K mainGlobals "_law_sums" = some (some (.ref ad__law_sums)))
    (l__law_sums : K.lookup ad__law_sums = some ⟨oc__law_sums, od__law_sums, .func (PySem.W.fnOf "_law_sums" "_law_sums" (defArgs s__law_sums) (defBody s__law_sums) (defScope s__law_sums) .none kV__law_sums dc__law_sums pm__law_sums an__law_sums cd__law_sums ct__law_sums), sl__law_sums⟩)
    (c__law_sums : PySem.W.codeIn K cd__law_sums "_law_sums" = true)
    (k__law_sums : PySem.W.keepIn K (.ref ad__law_sums) = true)
    (a__law_draw : PySem.W.nsIn K mainGlobals "_law_draw" = some (some (.ref ad__law_draw)))
    (l__law_draw : K.lookup ad__law_draw = some ⟨oc__law_draw, od__law_draw, .func (PySem.W.fnOf "_law_draw" "_law_draw" (defArgs s__law_draw) (defBody s__law_draw) (defScope s__law_draw) .none kV__law_draw dc__law_draw pm__law_draw an__law_draw cd__law_draw ct__law_draw), sl__law_draw⟩)
    (c__law_draw : PySem.W.codeIn K cd__law_draw "_law_draw" = true)
    (k__law_draw : PySem.W.keepIn K (.ref ad__law_draw) = true)
    (a__law_three : PySem.W.nsIn K mainGlobals "_law_three" = some (some (.ref ad__law_three)))
    (l__law_three : K.lookup ad__law_three = some ⟨oc__law_three, od__law_three, .func (PySem.W.fnOf "_law_three" "_law_three" (defArgs s__law_three) (defBody s__law_three) (defScope s__law_three) .none kV__law_three dc__law_three pm__law_three an__law_three cd__law_three ct__law_three), sl__law_three⟩)
    (c__law_three : PySem.W.codeIn K cd__law_three "_law_three" = true)
    (k__law_three : PySem.W.keepIn K (.ref ad__law_three) = true)
    (a__law_none : PySem.W.nsIn K mainGlobals "_law_none" = some (some (.ref ad__law_none)))
    (l__law_none : K.lookup ad__law_none = some ⟨oc__law_none, od__law_none, .func (PySem.W.fnOf "_law_none" "_law_none" (defArgs s__law_none) (defBody s__law_none) (defScope s__law_none) .none kV__law_none dc__law_none pm__law_none an__law_none cd__law_none ct__law_none), sl__law_none⟩)
    (c__law_none : PySem.W.codeIn K cd__law_none "_law_none" = true)
    (k__law_none : PySem.W.keepIn K (.ref ad__law_none) = true)
    (a_law : PySem.W.nsIn K mainGlobals "law" = some (some (.ref ad_law)))
    (l_law : K.lookup ad_law = some ⟨oc_law, od_law, .func (PySem.W.fnOf "law" "law" (defArgs s_law) (defBody s_law) (defScope s_law) .none kV_law dc_law pm_law an_law cd_law ct_law), sl_law⟩)
    (c_law : PySem.W.codeIn K cd_law "law" = true)
    (k_law : PySem.W.keepIn K (.ref ad_law) = true)
    (a_SquareError : PySem.W.nsIn K mainGlobals "SquareError" = some (some (.ref C_SquareError)))
    (x_SquareError : PySem.W.excIn K C_SquareError [.type "ValueError", .type "Exception", .type "BaseException", .type "object"] "ValueError.__new__" = true)
    (k_SquareError : PySem.W.keepIn K (.ref C_SquareError) = true)
    (s_SquareError : PySem.W.subIn K (.ref C_SquareError) (.type "BaseException") = some true)
    (t_SquareError : PySem.W.typeIn K (.ref C_SquareError) = some (.type "type"))
    (a_BadOrder : PySem.W.nsIn K mainGlobals "BadOrder" = some (some (.ref C_BadOrder)))
    (x_BadOrder : PySem.W.excIn K C_BadOrder [.type "ValueError", .type "Exception", .type "BaseException", .type "object"] "ValueError.__new__" = true)
    (k_BadOrder : PySem.W.keepIn K (.ref C_BadOrder) = true)
    (s_BadOrder : PySem.W.subIn K (.ref C_BadOrder) (.type "BaseException") = some true)
    (t_BadOrder : PySem.W.typeIn K (.ref C_BadOrder) = some (.type "type"))
    (a_BadPlace : PySem.W.nsIn K mainGlobals "BadPlace" = some (some (.ref C_BadPlace)))
    (x_BadPlace : PySem.W.excIn K C_BadPlace [.type "ValueError", .type "Exception", .type "BaseException", .type "object"] "ValueError.__new__" = true)
    (k_BadPlace : PySem.W.keepIn K (.ref C_BadPlace) = true)
    (s_BadPlace : PySem.W.subIn K (.ref C_BadPlace) (.type "BaseException") = some true)
    (t_BadPlace : PySem.W.typeIn K (.ref C_BadPlace) = some (.type "type"))
    (a_BadNumber : PySem.W.nsIn K mainGlobals "BadNumber" = some (some (.ref C_BadNumber)))
    (x_BadNumber : PySem.W.excIn K C_BadNumber [.type "ValueError", .type "Exception", .type "BaseException", .type "object"] "ValueError.__new__" = true)
    (k_BadNumber : PySem.W.keepIn K (.ref C_BadNumber) = true)
    (s_BadNumber : PySem.W.subIn K (.ref C_BadNumber) (.type "BaseException") = some true)
    (t_BadNumber : PySem.W.typeIn K (.ref C_BadNumber) = some (.type "type"))
    (a_BadSquare : PySem.W.nsIn K mainGlobals "BadSquare" = some (some (.ref C_BadSquare)))
    (x_BadSquare : PySem.W.excIn K C_BadSquare [.type "ValueError", .type "Exception", .type "BaseException", .type "object"] "ValueError.__new__" = true)
    (k_BadSquare : PySem.W.keepIn K (.ref C_BadSquare) = true)
    (s_BadSquare : PySem.W.subIn K (.ref C_BadSquare) (.type "BaseException") = some true)
    (t_BadSquare : PySem.W.typeIn K (.ref C_BadSquare) = some (.type "type"))
    (a_NotEven : PySem.W.nsIn K mainGlobals "NotEven" = some (some (.ref C_NotEven)))
    (x_NotEven : PySem.W.excIn K C_NotEven [.type "ValueError", .type "Exception", .type "BaseException", .type "object"] "ValueError.__new__" = true)
    (k_NotEven : PySem.W.keepIn K (.ref C_NotEven) = true)
    (s_NotEven : PySem.W.subIn K (.ref C_NotEven) (.type "BaseException") = some true)
    (t_NotEven : PySem.W.typeIn K (.ref C_NotEven) = some (.type "type"))
    (a_TooGreat : PySem.W.nsIn K mainGlobals "TooGreat" = some (some (.ref C_TooGreat)))
    (x_TooGreat : PySem.W.excIn K C_TooGreat [.type "ValueError", .type "Exception", .type "BaseException", .type "object"] "ValueError.__new__" = true)
    (k_TooGreat : PySem.W.keepIn K (.ref C_TooGreat) = true)
    (s_TooGreat : PySem.W.subIn K (.ref C_TooGreat) (.type "BaseException") = some true)
    (t_TooGreat : PySem.W.typeIn K (.ref C_TooGreat) = some (.type "type"))
    (ed_SquareError : PySem.W.hasDictIn K C_SquareError = true)
    (eg_BadOrder : PySem.W.findIn K (.ref C_BadOrder) "__getattribute__" = some (some (.builtin "BaseException.__getattribute__")))
    (ek_BadOrder : PySem.W.findIn K (.ref C_BadOrder) "__getattr__" = some none)
    (ed_BadOrder : PySem.W.hasDictIn K C_BadOrder = true)
    (ec_BadOrder : PySem.W.findIn K (.ref C_BadOrder) "__class__" = some (some (.builtin "object.__class__")))
    (em_BadOrder : PySem.W.mroIn K C_BadOrder (.type "object") = some true)
    (eq_BadOrder : PySem.W.subIn K (.ref C_BadOrder) (.ref C_SquareError) = some true)
    (k1_BadOrder_BadPlace : PySem.W.kitOne K (.ref C_BadOrder) (.ref C_BadPlace) = some false)
    (k1_BadOrder_BadOrder : PySem.W.kitOne K (.ref C_BadOrder) (.ref C_BadOrder) = some true)
    (k1_BadOrder_BadNumber : PySem.W.kitOne K (.ref C_BadOrder) (.ref C_BadNumber) = some false)
    (k1_BadOrder_TooGreat : PySem.W.kitOne K (.ref C_BadOrder) (.ref C_TooGreat) = some false)
    (k1_BadOrder_BadSquare : PySem.W.kitOne K (.ref C_BadOrder) (.ref C_BadSquare) = some false)
    (k1_BadOrder_NotEven : PySem.W.kitOne K (.ref C_BadOrder) (.ref C_NotEven) = some false)
    (eg_BadPlace : PySem.W.findIn K (.ref C_BadPlace) "__getattribute__" = some (some (.builtin "BaseException.__getattribute__")))
    (ek_BadPlace : PySem.W.findIn K (.ref C_BadPlace) "__getattr__" = some none)
    (ed_BadPlace : PySem.W.hasDictIn K C_BadPlace = true)
    (ec_BadPlace : PySem.W.findIn K (.ref C_BadPlace) "__class__" = some (some (.builtin "object.__class__")))
    (em_BadPlace : PySem.W.mroIn K C_BadPlace (.type "object") = some true)
    (eq_BadPlace : PySem.W.subIn K (.ref C_BadPlace) (.ref C_SquareError) = some true)
    (k1_BadPlace_BadPlace : PySem.W.kitOne K (.ref C_BadPlace) (.ref C_BadPlace) = some true)
    (k1_BadPlace_BadOrder : PySem.W.kitOne K (.ref C_BadPlace) (.ref C_BadOrder) = some false)
    (k1_BadPlace_BadNumber : PySem.W.kitOne K (.ref C_BadPlace) (.ref C_BadNumber) = some false)
    (k1_BadPlace_TooGreat : PySem.W.kitOne K (.ref C_BadPlace) (.ref C_TooGreat) = some false)
    (k1_BadPlace_BadSquare : PySem.W.kitOne K (.ref C_BadPlace) (.ref C_BadSquare) = some false)
    (k1_BadPlace_NotEven : PySem.W.kitOne K (.ref C_BadPlace) (.ref C_NotEven) = some false)
    (eg_BadNumber : PySem.W.findIn K (.ref C_BadNumber) "__getattribute__" = some (some (.builtin "BaseException.__getattribute__")))
    (ek_BadNumber : PySem.W.findIn K (.ref C_BadNumber) "__getattr__" = some none)
    (ed_BadNumber : PySem.W.hasDictIn K C_BadNumber = true)
    (ec_BadNumber : PySem.W.findIn K (.ref C_BadNumber) "__class__" = some (some (.builtin "object.__class__")))
    (em_BadNumber : PySem.W.mroIn K C_BadNumber (.type "object") = some true)
    (eq_BadNumber : PySem.W.subIn K (.ref C_BadNumber) (.ref C_SquareError) = some true)
    (k1_BadNumber_BadPlace : PySem.W.kitOne K (.ref C_BadNumber) (.ref C_BadPlace) = some false)
    (k1_BadNumber_BadOrder : PySem.W.kitOne K (.ref C_BadNumber) (.ref C_BadOrder) = some false)
    (k1_BadNumber_BadNumber : PySem.W.kitOne K (.ref C_BadNumber) (.ref C_BadNumber) = some true)
    (k1_BadNumber_TooGreat : PySem.W.kitOne K (.ref C_BadNumber) (.ref C_TooGreat) = some false)
    (k1_BadNumber_BadSquare : PySem.W.kitOne K (.ref C_BadNumber) (.ref C_BadSquare) = some false)
    (k1_BadNumber_NotEven : PySem.W.kitOne K (.ref C_BadNumber) (.ref C_NotEven) = some false)
    (eg_BadSquare : PySem.W.findIn K (.ref C_BadSquare) "__getattribute__" = some (some (.builtin "BaseException.__getattribute__")))
    (ek_BadSquare : PySem.W.findIn K (.ref C_BadSquare) "__getattr__" = some none)
    (ed_BadSquare : PySem.W.hasDictIn K C_BadSquare = true)
    (ec_BadSquare : PySem.W.findIn K (.ref C_BadSquare) "__class__" = some (some (.builtin "object.__class__")))
    (em_BadSquare : PySem.W.mroIn K C_BadSquare (.type "object") = some true)
    (eq_BadSquare : PySem.W.subIn K (.ref C_BadSquare) (.ref C_SquareError) = some true)
    (k1_BadSquare_BadPlace : PySem.W.kitOne K (.ref C_BadSquare) (.ref C_BadPlace) = some false)
    (k1_BadSquare_BadOrder : PySem.W.kitOne K (.ref C_BadSquare) (.ref C_BadOrder) = some false)
    (k1_BadSquare_BadNumber : PySem.W.kitOne K (.ref C_BadSquare) (.ref C_BadNumber) = some false)
    (k1_BadSquare_TooGreat : PySem.W.kitOne K (.ref C_BadSquare) (.ref C_TooGreat) = some false)
    (k1_BadSquare_BadSquare : PySem.W.kitOne K (.ref C_BadSquare) (.ref C_BadSquare) = some true)
    (k1_BadSquare_NotEven : PySem.W.kitOne K (.ref C_BadSquare) (.ref C_NotEven) = some false)
    (eg_NotEven : PySem.W.findIn K (.ref C_NotEven) "__getattribute__" = some (some (.builtin "BaseException.__getattribute__")))
    (ek_NotEven : PySem.W.findIn K (.ref C_NotEven) "__getattr__" = some none)
    (ed_NotEven : PySem.W.hasDictIn K C_NotEven = true)
    (ec_NotEven : PySem.W.findIn K (.ref C_NotEven) "__class__" = some (some (.builtin "object.__class__")))
    (em_NotEven : PySem.W.mroIn K C_NotEven (.type "object") = some true)
    (eq_NotEven : PySem.W.subIn K (.ref C_NotEven) (.ref C_SquareError) = some true)
    (k1_NotEven_BadPlace : PySem.W.kitOne K (.ref C_NotEven) (.ref C_BadPlace) = some false)
    (k1_NotEven_BadOrder : PySem.W.kitOne K (.ref C_NotEven) (.ref C_BadOrder) = some false)
    (k1_NotEven_BadNumber : PySem.W.kitOne K (.ref C_NotEven) (.ref C_BadNumber) = some false)
    (k1_NotEven_TooGreat : PySem.W.kitOne K (.ref C_NotEven) (.ref C_TooGreat) = some false)
    (k1_NotEven_BadSquare : PySem.W.kitOne K (.ref C_NotEven) (.ref C_BadSquare) = some false)
    (k1_NotEven_NotEven : PySem.W.kitOne K (.ref C_NotEven) (.ref C_NotEven) = some true)
    (eg_TooGreat : PySem.W.findIn K (.ref C_TooGreat) "__getattribute__" = some (some (.builtin "BaseException.__getattribute__")))
    (ek_TooGreat : PySem.W.findIn K (.ref C_TooGreat) "__getattr__" = some none)
    (ed_TooGreat : PySem.W.hasDictIn K C_TooGreat = true)
    (ec_TooGreat : PySem.W.findIn K (.ref C_TooGreat) "__class__" = some (some (.builtin "object.__class__")))
    (em_TooGreat : PySem.W.mroIn K C_TooGreat (.type "object") = some true)
    (eq_TooGreat : PySem.W.subIn K (.ref C_TooGreat) (.ref C_SquareError) = some true)
    (k1_TooGreat_BadPlace : PySem.W.kitOne K (.ref C_TooGreat) (.ref C_BadPlace) = some false)
    (k1_TooGreat_BadOrder : PySem.W.kitOne K (.ref C_TooGreat) (.ref C_BadOrder) = some false)
    (k1_TooGreat_BadNumber : PySem.W.kitOne K (.ref C_TooGreat) (.ref C_BadNumber) = some false)
    (k1_TooGreat_TooGreat : PySem.W.kitOne K (.ref C_TooGreat) (.ref C_TooGreat) = some true)
    (k1_TooGreat_BadSquare : PySem.W.kitOne K (.ref C_TooGreat) (.ref C_BadSquare) = some false)
    (k1_TooGreat_NotEven : PySem.W.kitOne K (.ref C_TooGreat) (.ref C_NotEven) = some false)
    (z_isinstance : PySem.W.nsIn K mainGlobals "isinstance" = some none)
    (z_int : PySem.W.nsIn K mainGlobals "int" = some none)
    (z_bool : PySem.W.nsIn K mainGlobals "bool" = some none)
    (z_list : PySem.W.nsIn K mainGlobals "list" = some none)
    (z_len : PySem.W.nsIn K mainGlobals "len" = some none)
    (z_all : PySem.W.nsIn K mainGlobals "all" = some none)
    (z_range : PySem.W.nsIn K mainGlobals "range" = some none)
    (z_sum : PySem.W.nsIn K mainGlobals "sum" = some none)
    (z_any : PySem.W.nsIn K mainGlobals "any" = some none)
    (z_set : PySem.W.nsIn K mainGlobals "set" = some none)
    (z_tuple : PySem.W.nsIn K mainGlobals "tuple" = some none)
    : ∃ fd : FuncData, (∀ (s : Shared) (u : Value), BindsTo s fd ⟨[u], []⟩ [("_law_script", u)]) ∧ ∀ base : Heap, K.In base → base.Ns mainGlobals mg → ∃ T : Tx, T.K = K ∧ FnOk P w K mg base (L2N.CX P w) 6 fa fd ["_law_script"] (spS T 1 f_law) := by
  have e := hfa.symm.trans (PySem.W.mg_of X G a_law)
  cases e
  have F_is_number := fun_mk (st := s_is_number) l_is_number c_is_number k_is_number
  have b_is_number := F_is_number.binds (ps := ["thing"]) fun _ _ _ _ _ _ us hl => match us, hl with | [_], _ => rfl
  have F_asked_square := fun_mk (st := s_asked_square) l_asked_square c_asked_square k_asked_square
  have b_asked_square := F_asked_square.binds (ps := ["square"]) fun _ _ _ _ _ _ us hl => match us, hl with | [_], _ => rfl
  have F_lines := fun_mk (st := s_lines) l_lines c_lines k_lines
  have b_lines := F_lines.binds (ps := ["order"]) fun _ _ _ _ _ _ us hl => match us, hl with | [_], _ => rfl
  have F_sum_along := fun_mk (st := s_sum_along) l_sum_along c_sum_along k_sum_along
  have b_sum_along := F_sum_along.binds (ps := ["square", "line"]) fun _ _ _ _ _ _ us hl => match us, hl with | [_, _], _ => rfl
  have F_told := fun_mk (st := s_told) l_told c_told k_told
  have b_told := F_told.binds (ps := ["square"]) fun _ _ _ _ _ _ us hl => match us, hl with | [_], _ => rfl
  have F_three := fun_mk (st := s_three) l_three c_three k_three
  have b_three := F_three.binds (ps := ["middle", "one", "other"]) fun _ _ _ _ _ _ us hl => match us, hl with | [_, _, _], _ => rfl
  have F_parts := fun_mk (st := s_parts) l_parts c_parts k_parts
  have b_parts := F_parts.binds (ps := ["square"]) fun _ _ _ _ _ _ us hl => match us, hl with | [_], _ => rfl
  have F__law_lines := fun_mk (st := s__law_lines) l__law_lines c__law_lines k__law_lines
  have b__law_lines := F__law_lines.binds (ps := ["_law_order"]) fun _ _ _ _ _ _ us hl => match us, hl with | [_], _ => rfl
  have F__law_sum := fun_mk (st := s__law_sum) l__law_sum c__law_sum k__law_sum
  have b__law_sum := F__law_sum.binds (ps := ["_law_square", "_law_line"]) fun _ _ _ _ _ _ us hl => match us, hl with | [_, _], _ => rfl
  have F__law_sums := fun_mk (st := s__law_sums) l__law_sums c__law_sums k__law_sums
  have b__law_sums := F__law_sums.binds (ps := ["_law_square"]) fun _ _ _ _ _ _ us hl => match us, hl with | [_], _ => rfl
  have F__law_draw := fun_mk (st := s__law_draw) l__law_draw c__law_draw k__law_draw
  have b__law_draw := F__law_draw.binds (ps := ["_law_script", "_law_order", "_law_by"]) fun _ _ _ _ _ _ us hl => match us, hl with | [_, _, _], _ => rfl
  have F__law_three := fun_mk (st := s__law_three) l__law_three c__law_three k__law_three
  have b__law_three := F__law_three.binds (ps := ["_law_middle", "_law_one", "_law_other"]) fun _ _ _ _ _ _ us hl => match us, hl with | [_, _, _], _ => rfl
  have F__law_none := fun_mk (st := s__law_none) l__law_none c__law_none k__law_none
  have b__law_none := F__law_none.binds (ps := ["_law_square"]) fun _ _ _ _ _ _ us hl => match us, hl with | [_], _ => rfl
  have F_law := fun_mk (st := s_law) l_law c_law k_law
  have b_law := F_law.binds (ps := ["_law_script"]) fun _ _ _ _ _ _ us hl => match us, hl with | [_], _ => rfl
  have Fi_Even := fun_mk (st := si_Even) li_Even ci_Even ki_Even
  have bi_Even := Fi_Even.binds (ps := ["self", "total"]) fun _ _ _ _ _ _ us hl => match us, hl with | [_, _], _ => rfl
  have Fi_Unlike := fun_mk (st := si_Unlike) li_Unlike ci_Unlike ki_Unlike
  have bi_Unlike := Fi_Unlike.binds (ps := ["self", "one", "other"]) fun _ _ _ _ _ _ us hl => match us, hl with | [_, _, _], _ => rfl
  let Z : Tp ⟨K, mg, C_Even, C_Unlike, none⟩ w := {
    a_is_number := _, d_is_number := _, F_is_number := F_is_number, b_is_number := b_is_number, g_is_number := PySem.W.mg_of X G a_is_number
    a_asked_square := _, d_asked_square := _, F_asked_square := F_asked_square, b_asked_square := b_asked_square, g_asked_square := PySem.W.mg_of X G a_asked_square
    a_lines := _, d_lines := _, F_lines := F_lines, b_lines := b_lines, g_lines := PySem.W.mg_of X G a_lines
    a_sum_along := _, d_sum_along := _, F_sum_along := F_sum_along, b_sum_along := b_sum_along, g_sum_along := PySem.W.mg_of X G a_sum_along
    a_told := _, d_told := _, F_told := F_told, b_told := b_told, g_told := PySem.W.mg_of X G a_told
    a_three := _, d_three := _, F_three := F_three, b_three := b_three, g_three := PySem.W.mg_of X G a_three
    a_parts := _, d_parts := _, F_parts := F_parts, b_parts := b_parts, g_parts := PySem.W.mg_of X G a_parts
    a__law_lines := _, d__law_lines := _, F__law_lines := F__law_lines, b__law_lines := b__law_lines, g__law_lines := PySem.W.mg_of X G a__law_lines
    a__law_sum := _, d__law_sum := _, F__law_sum := F__law_sum, b__law_sum := b__law_sum, g__law_sum := PySem.W.mg_of X G a__law_sum
    a__law_sums := _, d__law_sums := _, F__law_sums := F__law_sums, b__law_sums := b__law_sums, g__law_sums := PySem.W.mg_of X G a__law_sums
    a__law_draw := _, d__law_draw := _, F__law_draw := F__law_draw, b__law_draw := b__law_draw, g__law_draw := PySem.W.mg_of X G a__law_draw
    a__law_three := _, d__law_three := _, F__law_three := F__law_three, b__law_three := b__law_three, g__law_three := PySem.W.mg_of X G a__law_three
    a__law_none := _, d__law_none := _, F__law_none := F__law_none, b__law_none := b__law_none, g__law_none := PySem.W.mg_of X G a__law_none
    a_law := _, d_law := _, F_law := F_law, b_law := b_law, g_law := PySem.W.mg_of X G a_law
    ai_Even := _, di_Even := _, Fi_Even := Fi_Even, bi_Even := bi_Even, K_Even := ⟨mk_Even, ai_Even, ii_Even, kc_Even⟩, cl_Even := ⟨pg_Even, hd_Even, po_Even, sa_Even⟩, i_Even := ⟨⟨pg_Even, hd_Even, po_Even, sa_Even⟩, cc_Even, og, ot, mr_Even⟩, g_Even := PySem.W.mg_of X G a_Even
    n_Even_total := n_Even_total
    ai_Unlike := _, di_Unlike := _, Fi_Unlike := Fi_Unlike, bi_Unlike := bi_Unlike, K_Unlike := ⟨mk_Unlike, ai_Unlike, ii_Unlike, kc_Unlike⟩, cl_Unlike := ⟨pg_Unlike, hd_Unlike, po_Unlike, sa_Unlike⟩, i_Unlike := ⟨⟨pg_Unlike, hd_Unlike, po_Unlike, sa_Unlike⟩, cc_Unlike, og, ot, mr_Unlike⟩, g_Unlike := PySem.W.mg_of X G a_Unlike
    n_Unlike_one := n_Unlike_one
    n_Unlike_other := n_Unlike_other
    k1_Even := k1_Even, k2_Even := k2_Even
    c_SquareError := _, g_SquareError := PySem.W.mg_of X G a_SquareError, x_SquareError := x_SquareError, k_SquareError := k_SquareError, s_SquareError := s_SquareError, t_SquareError := t_SquareError
    c_BadOrder := _, g_BadOrder := PySem.W.mg_of X G a_BadOrder, x_BadOrder := x_BadOrder, k_BadOrder := k_BadOrder, s_BadOrder := s_BadOrder, t_BadOrder := t_BadOrder
    c_BadPlace := _, g_BadPlace := PySem.W.mg_of X G a_BadPlace, x_BadPlace := x_BadPlace, k_BadPlace := k_BadPlace, s_BadPlace := s_BadPlace, t_BadPlace := t_BadPlace
    c_BadNumber := _, g_BadNumber := PySem.W.mg_of X G a_BadNumber, x_BadNumber := x_BadNumber, k_BadNumber := k_BadNumber, s_BadNumber := s_BadNumber, t_BadNumber := t_BadNumber
    c_BadSquare := _, g_BadSquare := PySem.W.mg_of X G a_BadSquare, x_BadSquare := x_BadSquare, k_BadSquare := k_BadSquare, s_BadSquare := s_BadSquare, t_BadSquare := t_BadSquare
    c_NotEven := _, g_NotEven := PySem.W.mg_of X G a_NotEven, x_NotEven := x_NotEven, k_NotEven := k_NotEven, s_NotEven := s_NotEven, t_NotEven := t_NotEven
    c_TooGreat := _, g_TooGreat := PySem.W.mg_of X G a_TooGreat, x_TooGreat := x_TooGreat, k_TooGreat := k_TooGreat, s_TooGreat := s_TooGreat, t_TooGreat := t_TooGreat
    ea := rfl
    es := fun c hc C hm => by
      have hc := List.elem_iff.mp (show List.elem c _ = true from hc)
      simp only [List.mem_cons, List.not_mem_nil, or_false] at hc
      rcases hc with rfl | rfl | rfl | rfl | rfl | rfl
      · have e := hm.symm.trans (PySem.W.mg_of X G a_BadOrder)
        cases e
        exact ⟨PySem.W.exm_ref s_SquareError ed_SquareError t_SquareError eq_BadOrder, ⟨eg_BadOrder, ek_BadOrder, s_BadOrder, ed_BadOrder, ec_BadOrder, og, ot, em_BadOrder⟩, kit_eqb k1_BadOrder_BadPlace (by decide +kernel), kit_eqb k1_BadOrder_BadOrder (by decide +kernel), kit_eqb k1_BadOrder_BadNumber (by decide +kernel), kit_eqb k1_BadOrder_TooGreat (by decide +kernel), kit_eqb k1_BadOrder_BadSquare (by decide +kernel), kit_eqb k1_BadOrder_NotEven (by decide +kernel), trivial⟩
      · have e := hm.symm.trans (PySem.W.mg_of X G a_BadPlace)
        cases e
        exact ⟨PySem.W.exm_ref s_SquareError ed_SquareError t_SquareError eq_BadPlace, ⟨eg_BadPlace, ek_BadPlace, s_BadPlace, ed_BadPlace, ec_BadPlace, og, ot, em_BadPlace⟩, kit_eqb k1_BadPlace_BadPlace (by decide +kernel), kit_eqb k1_BadPlace_BadOrder (by decide +kernel), kit_eqb k1_BadPlace_BadNumber (by decide +kernel), kit_eqb k1_BadPlace_TooGreat (by decide +kernel), kit_eqb k1_BadPlace_BadSquare (by decide +kernel), kit_eqb k1_BadPlace_NotEven (by decide +kernel), trivial⟩
      · have e := hm.symm.trans (PySem.W.mg_of X G a_BadNumber)
        cases e
        exact ⟨PySem.W.exm_ref s_SquareError ed_SquareError t_SquareError eq_BadNumber, ⟨eg_BadNumber, ek_BadNumber, s_BadNumber, ed_BadNumber, ec_BadNumber, og, ot, em_BadNumber⟩, kit_eqb k1_BadNumber_BadPlace (by decide +kernel), kit_eqb k1_BadNumber_BadOrder (by decide +kernel), kit_eqb k1_BadNumber_BadNumber (by decide +kernel), kit_eqb k1_BadNumber_TooGreat (by decide +kernel), kit_eqb k1_BadNumber_BadSquare (by decide +kernel), kit_eqb k1_BadNumber_NotEven (by decide +kernel), trivial⟩
      · have e := hm.symm.trans (PySem.W.mg_of X G a_BadSquare)
        cases e
        exact ⟨PySem.W.exm_ref s_SquareError ed_SquareError t_SquareError eq_BadSquare, ⟨eg_BadSquare, ek_BadSquare, s_BadSquare, ed_BadSquare, ec_BadSquare, og, ot, em_BadSquare⟩, kit_eqb k1_BadSquare_BadPlace (by decide +kernel), kit_eqb k1_BadSquare_BadOrder (by decide +kernel), kit_eqb k1_BadSquare_BadNumber (by decide +kernel), kit_eqb k1_BadSquare_TooGreat (by decide +kernel), kit_eqb k1_BadSquare_BadSquare (by decide +kernel), kit_eqb k1_BadSquare_NotEven (by decide +kernel), trivial⟩
      · have e := hm.symm.trans (PySem.W.mg_of X G a_NotEven)
        cases e
        exact ⟨PySem.W.exm_ref s_SquareError ed_SquareError t_SquareError eq_NotEven, ⟨eg_NotEven, ek_NotEven, s_NotEven, ed_NotEven, ec_NotEven, og, ot, em_NotEven⟩, kit_eqb k1_NotEven_BadPlace (by decide +kernel), kit_eqb k1_NotEven_BadOrder (by decide +kernel), kit_eqb k1_NotEven_BadNumber (by decide +kernel), kit_eqb k1_NotEven_TooGreat (by decide +kernel), kit_eqb k1_NotEven_BadSquare (by decide +kernel), kit_eqb k1_NotEven_NotEven (by decide +kernel), trivial⟩
      · have e := hm.symm.trans (PySem.W.mg_of X G a_TooGreat)
        cases e
        exact ⟨PySem.W.exm_ref s_SquareError ed_SquareError t_SquareError eq_TooGreat, ⟨eg_TooGreat, ek_TooGreat, s_TooGreat, ed_TooGreat, ec_TooGreat, og, ot, em_TooGreat⟩, kit_eqb k1_TooGreat_BadPlace (by decide +kernel), kit_eqb k1_TooGreat_BadOrder (by decide +kernel), kit_eqb k1_TooGreat_BadNumber (by decide +kernel), kit_eqb k1_TooGreat_TooGreat (by decide +kernel), kit_eqb k1_TooGreat_BadSquare (by decide +kernel), kit_eqb k1_TooGreat_NotEven (by decide +kernel), trivial⟩
    m_isinstance := PySem.W.mg_none_of X G z_isinstance
    m_int := PySem.W.mg_none_of X G z_int
    m_bool := PySem.W.mg_none_of X G z_bool
    m_list := PySem.W.mg_none_of X G z_list
    m_len := PySem.W.mg_none_of X G z_len
    m_all := PySem.W.mg_none_of X G z_all
    m_range := PySem.W.mg_none_of X G z_range
    m_sum := PySem.W.mg_none_of X G z_sum
    m_any := PySem.W.mg_none_of X G z_any
    m_set := PySem.W.mg_none_of X G z_set
    m_tuple := PySem.W.mg_none_of X G z_tuple
  }
  exact ⟨_, fun s v => .of_eq rfl, fun base _ _ => ⟨⟨K, mg, C_Even, C_Unlike, none⟩, rfl, ok_law (P := P) (base := base) Z⟩⟩
end K05

open PySem PySem.W PyProof.Rows
set_option maxRecDepth 100000 in
set_option maxHeartbeats 0 in
theorem PySem.Challenge.cw_evensquare_k05_whole_threes_holds : PySem.Challenge.rw_evensquare_k05_whole_threes.Holds := by
  w_on; o_law; k_head; (case hw => w_witness2)
  k_fill
  refine G6.walk_end (l := PySem.Challenge.rw_evensquare_k05_whole_threes) (k := 6) (x := "_law_script") (f := K05.f_law) rfl rfl ⟨rfl, by decide, by decide⟩ (fun w h Y => PySem.W.kIn_of Y) ?F K05.law_true
  case F =>
    intro w mg fa h KX G hmg
    refine' K05.all_mk KX G hmg ?a_Even ?a_Unlike ?ai_Even ?ii_Even ?li_Even ?ci_Even ?ki_Even ?pg_Even ?hd_Even ?po_Even ?sa_Even ?mk_Even ?kc_Even ?cc_Even ?mr_Even ?n_Even_total ?ai_Unlike ?ii_Unlike ?li_Unlike ?ci_Unlike ?ki_Unlike ?pg_Unlike ?hd_Unlike ?po_Unlike ?sa_Unlike ?mk_Unlike ?kc_Unlike ?cc_Unlike ?mr_Unlike ?n_Unlike_one ?n_Unlike_other ?og ?ot ?k1_Even ?k2_Even ?a_is_number ?l_is_number ?c_is_number ?k_is_number ?a_asked_square ?l_asked_square ?c_asked_square ?k_asked_square ?a_lines ?l_lines ?c_lines ?k_lines ?a_sum_along ?l_sum_along ?c_sum_along ?k_sum_along ?a_told ?l_told ?c_told ?k_told ?a_three ?l_three ?c_three ?k_three ?a_parts ?l_parts ?c_parts ?k_parts ?a__law_lines ?l__law_lines ?c__law_lines ?k__law_lines ?a__law_sum ?l__law_sum ?c__law_sum ?k__law_sum ?a__law_sums ?l__law_sums ?c__law_sums ?k__law_sums ?a__law_draw ?l__law_draw ?c__law_draw ?k__law_draw ?a__law_three ?l__law_three ?c__law_three ?k__law_three ?a__law_none ?l__law_none ?c__law_none ?k__law_none ?a_law ?l_law ?c_law ?k_law ?a_SquareError ?x_SquareError ?k_SquareError ?s_SquareError ?t_SquareError ?a_BadOrder ?x_BadOrder ?k_BadOrder ?s_BadOrder ?t_BadOrder ?a_BadPlace ?x_BadPlace ?k_BadPlace ?s_BadPlace ?t_BadPlace ?a_BadNumber ?x_BadNumber ?k_BadNumber ?s_BadNumber ?t_BadNumber ?a_BadSquare ?x_BadSquare ?k_BadSquare ?s_BadSquare ?t_BadSquare ?a_NotEven ?x_NotEven ?k_NotEven ?s_NotEven ?t_NotEven ?a_TooGreat ?x_TooGreat ?k_TooGreat ?s_TooGreat ?t_TooGreat ?ed_SquareError ?eg_BadOrder ?ek_BadOrder ?ed_BadOrder ?ec_BadOrder ?em_BadOrder ?eq_BadOrder ?k1_BadOrder_BadPlace ?k1_BadOrder_BadOrder ?k1_BadOrder_BadNumber ?k1_BadOrder_TooGreat ?k1_BadOrder_BadSquare ?k1_BadOrder_NotEven ?eg_BadPlace ?ek_BadPlace ?ed_BadPlace ?ec_BadPlace ?em_BadPlace ?eq_BadPlace ?k1_BadPlace_BadPlace ?k1_BadPlace_BadOrder ?k1_BadPlace_BadNumber ?k1_BadPlace_TooGreat ?k1_BadPlace_BadSquare ?k1_BadPlace_NotEven ?eg_BadNumber ?ek_BadNumber ?ed_BadNumber ?ec_BadNumber ?em_BadNumber ?eq_BadNumber ?k1_BadNumber_BadPlace ?k1_BadNumber_BadOrder ?k1_BadNumber_BadNumber ?k1_BadNumber_TooGreat ?k1_BadNumber_BadSquare ?k1_BadNumber_NotEven ?eg_BadSquare ?ek_BadSquare ?ed_BadSquare ?ec_BadSquare ?em_BadSquare ?eq_BadSquare ?k1_BadSquare_BadPlace ?k1_BadSquare_BadOrder ?k1_BadSquare_BadNumber ?k1_BadSquare_TooGreat ?k1_BadSquare_BadSquare ?k1_BadSquare_NotEven ?eg_NotEven ?ek_NotEven ?ed_NotEven ?ec_NotEven ?em_NotEven ?eq_NotEven ?k1_NotEven_BadPlace ?k1_NotEven_BadOrder ?k1_NotEven_BadNumber ?k1_NotEven_TooGreat ?k1_NotEven_BadSquare ?k1_NotEven_NotEven ?eg_TooGreat ?ek_TooGreat ?ed_TooGreat ?ec_TooGreat ?em_TooGreat ?eq_TooGreat ?k1_TooGreat_BadPlace ?k1_TooGreat_BadOrder ?k1_TooGreat_BadNumber ?k1_TooGreat_TooGreat ?k1_TooGreat_BadSquare ?k1_TooGreat_NotEven ?z_isinstance ?z_int ?z_bool ?z_list ?z_len ?z_all ?z_range ?z_sum ?z_any ?z_set ?z_tuple
    (case a_Even => k_is)
    (case a_Unlike => k_is)
    (case ai_Even => k_is)
    (case ii_Even => k_is)
    (case li_Even => k_is)
    (case ci_Even => k_is)
    (case ki_Even => k_is)
    (case pg_Even => k_is)
    (case hd_Even => k_is)
    (case po_Even => k_is)
    (case sa_Even => k_is)
    (case mk_Even => k_is)
    (case kc_Even => k_is)
    (case cc_Even => k_is)
    (case mr_Even => k_is)
    (case n_Even_total => k_is)
    (case ai_Unlike => k_is)
    (case ii_Unlike => k_is)
    (case li_Unlike => k_is)
    (case ci_Unlike => k_is)
    (case ki_Unlike => k_is)
    (case pg_Unlike => k_is)
    (case hd_Unlike => k_is)
    (case po_Unlike => k_is)
    (case sa_Unlike => k_is)
    (case mk_Unlike => k_is)
    (case kc_Unlike => k_is)
    (case cc_Unlike => k_is)
    (case mr_Unlike => k_is)
    (case n_Unlike_one => k_is)
    (case n_Unlike_other => k_is)
    (case og => k_is)
    (case ot => k_is)
    (case k1_Even => kit_is)
    (case k2_Even => kit_is)
    (case a_is_number => k_is)
    (case l_is_number => k_is)
    (case c_is_number => k_is)
    (case k_is_number => k_is)
    (case a_asked_square => k_is)
    (case l_asked_square => k_is)
    (case c_asked_square => k_is)
    (case k_asked_square => k_is)
    (case a_lines => k_is)
    (case l_lines => k_is)
    (case c_lines => k_is)
    (case k_lines => k_is)
    (case a_sum_along => k_is)
    (case l_sum_along => k_is)
    (case c_sum_along => k_is)
    (case k_sum_along => k_is)
    (case a_told => k_is)
    (case l_told => k_is)
    (case c_told => k_is)
    (case k_told => k_is)
    (case a_three => k_is)
    (case l_three => k_is)
    (case c_three => k_is)
    (case k_three => k_is)
    (case a_parts => k_is)
    (case l_parts => k_is)
    (case c_parts => k_is)
    (case k_parts => k_is)
    (case a__law_lines => k_is)
    (case l__law_lines => k_is)
    (case c__law_lines => k_is)
    (case k__law_lines => k_is)
    (case a__law_sum => k_is)
    (case l__law_sum => k_is)
    (case c__law_sum => k_is)
    (case k__law_sum => k_is)
    (case a__law_sums => k_is)
    (case l__law_sums => k_is)
    (case c__law_sums => k_is)
    (case k__law_sums => k_is)
    (case a__law_draw => k_is)
    (case l__law_draw => k_is)
    (case c__law_draw => k_is)
    (case k__law_draw => k_is)
    (case a__law_three => k_is)
    (case l__law_three => k_is)
    (case c__law_three => k_is)
    (case k__law_three => k_is)
    (case a__law_none => k_is)
    (case l__law_none => k_is)
    (case c__law_none => k_is)
    (case k__law_none => k_is)
    (case a_law => k_is)
    (case l_law => k_is)
    (case c_law => k_is)
    (case k_law => k_is)
    (case a_SquareError => k_is)
    (case x_SquareError => k_exc)
    (case k_SquareError => k_is)
    (case s_SquareError => k_is)
    (case t_SquareError => k_is)
    (case a_BadOrder => k_is)
    (case x_BadOrder => k_exc)
    (case k_BadOrder => k_is)
    (case s_BadOrder => k_is)
    (case t_BadOrder => k_is)
    (case a_BadPlace => k_is)
    (case x_BadPlace => k_exc)
    (case k_BadPlace => k_is)
    (case s_BadPlace => k_is)
    (case t_BadPlace => k_is)
    (case a_BadNumber => k_is)
    (case x_BadNumber => k_exc)
    (case k_BadNumber => k_is)
    (case s_BadNumber => k_is)
    (case t_BadNumber => k_is)
    (case a_BadSquare => k_is)
    (case x_BadSquare => k_exc)
    (case k_BadSquare => k_is)
    (case s_BadSquare => k_is)
    (case t_BadSquare => k_is)
    (case a_NotEven => k_is)
    (case x_NotEven => k_exc)
    (case k_NotEven => k_is)
    (case s_NotEven => k_is)
    (case t_NotEven => k_is)
    (case a_TooGreat => k_is)
    (case x_TooGreat => k_exc)
    (case k_TooGreat => k_is)
    (case s_TooGreat => k_is)
    (case t_TooGreat => k_is)
    (case ed_SquareError => k_is)
    (case eg_BadOrder => k_is)
    (case ek_BadOrder => k_is)
    (case ed_BadOrder => k_is)
    (case ec_BadOrder => k_is)
    (case em_BadOrder => k_is)
    (case eq_BadOrder => k_is)
    (case k1_BadOrder_BadPlace => kit_is)
    (case k1_BadOrder_BadOrder => kit_is)
    (case k1_BadOrder_BadNumber => kit_is)
    (case k1_BadOrder_TooGreat => kit_is)
    (case k1_BadOrder_BadSquare => kit_is)
    (case k1_BadOrder_NotEven => kit_is)
    (case eg_BadPlace => k_is)
    (case ek_BadPlace => k_is)
    (case ed_BadPlace => k_is)
    (case ec_BadPlace => k_is)
    (case em_BadPlace => k_is)
    (case eq_BadPlace => k_is)
    (case k1_BadPlace_BadPlace => kit_is)
    (case k1_BadPlace_BadOrder => kit_is)
    (case k1_BadPlace_BadNumber => kit_is)
    (case k1_BadPlace_TooGreat => kit_is)
    (case k1_BadPlace_BadSquare => kit_is)
    (case k1_BadPlace_NotEven => kit_is)
    (case eg_BadNumber => k_is)
    (case ek_BadNumber => k_is)
    (case ed_BadNumber => k_is)
    (case ec_BadNumber => k_is)
    (case em_BadNumber => k_is)
    (case eq_BadNumber => k_is)
    (case k1_BadNumber_BadPlace => kit_is)
    (case k1_BadNumber_BadOrder => kit_is)
    (case k1_BadNumber_BadNumber => kit_is)
    (case k1_BadNumber_TooGreat => kit_is)
    (case k1_BadNumber_BadSquare => kit_is)
    (case k1_BadNumber_NotEven => kit_is)
    (case eg_BadSquare => k_is)
    (case ek_BadSquare => k_is)
    (case ed_BadSquare => k_is)
    (case ec_BadSquare => k_is)
    (case em_BadSquare => k_is)
    (case eq_BadSquare => k_is)
    (case k1_BadSquare_BadPlace => kit_is)
    (case k1_BadSquare_BadOrder => kit_is)
    (case k1_BadSquare_BadNumber => kit_is)
    (case k1_BadSquare_TooGreat => kit_is)
    (case k1_BadSquare_BadSquare => kit_is)
    (case k1_BadSquare_NotEven => kit_is)
    (case eg_NotEven => k_is)
    (case ek_NotEven => k_is)
    (case ed_NotEven => k_is)
    (case ec_NotEven => k_is)
    (case em_NotEven => k_is)
    (case eq_NotEven => k_is)
    (case k1_NotEven_BadPlace => kit_is)
    (case k1_NotEven_BadOrder => kit_is)
    (case k1_NotEven_BadNumber => kit_is)
    (case k1_NotEven_TooGreat => kit_is)
    (case k1_NotEven_BadSquare => kit_is)
    (case k1_NotEven_NotEven => kit_is)
    (case eg_TooGreat => k_is)
    (case ek_TooGreat => k_is)
    (case ed_TooGreat => k_is)
    (case ec_TooGreat => k_is)
    (case em_TooGreat => k_is)
    (case eq_TooGreat => k_is)
    (case k1_TooGreat_BadPlace => kit_is)
    (case k1_TooGreat_BadOrder => kit_is)
    (case k1_TooGreat_BadNumber => kit_is)
    (case k1_TooGreat_TooGreat => kit_is)
    (case k1_TooGreat_BadSquare => kit_is)
    (case k1_TooGreat_NotEven => kit_is)
    (case z_isinstance => k_is)
    (case z_int => k_is)
    (case z_bool => k_is)
    (case z_list => k_is)
    (case z_len => k_is)
    (case z_all => k_is)
    (case z_range => k_is)
    (case z_sum => k_is)
    (case z_any => k_is)
    (case z_set => k_is)
    (case z_tuple => k_is)
