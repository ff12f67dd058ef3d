import PyProof.Rows.All
import Wide.All
import OpenK.AllK
import Wide.FinOn
import HandS.Small
import HandS.ForMost
import HandS.ForExc
import HandS.Deep
import HandS.Wide
import HandS.TupAny
import HandS.TupMul
import HandS.Style
import HandS.IsInst
import HandS.DictComp
import HandS.Zip
import HandS.SetKeys
import HandS.SortKw
import HandS.Lambda
import HandS.HotCalls
import HandS.TryOnly
import HandS.ExcOwn
import HandS.ExcIs
import HandS.WordsExc
import HandS.Defaults
import HandS.Head0
import HandS.Head1
import HandS.Head2
import HandS.HeadEnd
import HandS.HeadHook1
import HandS.HeadHook2
import HandS.HeadHook3
import HandS.HeadHook4
import HandS.HeadWalk
import HandS.EndTab
import KE.KDictPairs
import KE.KDictKeyed
import KE.SortData
import KE.SortKeyHeap
import KE.LtData
import KE.SortUse
import HandS.SetBool
import HandS.SetFor
import HandS.Strs
import KE.KDictZip
import KE.KTurns
import PyProof.ListNew
import HandS.ExcValue
import HandS.Hot
import PyProof.SumWalkG
import PySem.Challenge.RW_windowboxes_k04_whole_dim_ways
set_option Elab.async false
set_option linter.all false
set_option maxRecDepth 100000
set_option maxHeartbeats 0
namespace Ev
open PySem PySem.Spec PyProof.Rows L2
set_option autoImplicit true
abbrev St := L2.St

/-! ### values as trees -/
abbrev KY := Sum Int (List Nat)
inductive D where
  | non | bl (b : Bool) | int (i : Int) | str (s : List Nat)
  | lst (ds : List D) | tup (ds : List D)
  | fl (ds : List D)     -- a list that is never changed (the script)
  | dk (ks : List KY) (vs : List D)
  | obj (c : Nat) (fs : List D)
  | hnd (n : Nat)
/-- what a handle holds -/
inductive HD where
  | lst (ds : List D)
  | dk (ks : List KY) (vs : List D)
  | ins (c : Nat) (fs : List D)
abbrev HSt := List HD

def kyK : KY → Key
  | .inl i => .inl i
  | .inr s => .inr ⟨s.toArray⟩

/-- the fixed facts' addresses: the written part, classes by number, their fields' names -/
structure GC where
  K : PySem.W.Frag
  cls : Nat → Addr
  fnm : Nat → List Str
  T : List (Addr × Str)   -- the tables of code objects
/-- what is frozen, the handles' addresses -/
structure Wd where
  F : Addr → Prop
  L : List Addr

def KTup (K : PySem.W.Frag) (a : Addr) (xs : List V) : Prop := ∃ (o : Obj) (its : Array Value) (n : Nat), K.lookup a = some o ∧ o.cls = .type "tuple" ∧ o.dict = none ∧ o.data = .seq its n ∧ its.size ≤ sizeLine ∧ Vals xs its.toList
/-- a tuple that was laid, its own object known (it has no dict) -/
def TupAt (K : PySem.W.Frag) (F : Addr → Prop) (H : Hp) (a : Addr) (xs : List V) : Prop := (F a ∧ ∃ o : Obj, o.dict = none ∧ H a = some (.frz o (.tup xs))) ∨ KTup K a xs
theorem TupAt.sq {K F H a xs} (h : TupAt K F H a xs) : SqT K H a xs := by
  rcases h with ⟨_, o, _, h⟩ | ⟨o, its, n, h1, h2, _, h3⟩
  · exact .inl (.inr ⟨o, h⟩)
  · exact .inr ⟨o, its, n, h1, h2, h3⟩

/-- a list that nobody changes, the machine's own -/
def FlAt (K : PySem.W.Frag) (F : Addr → Prop) (H : Hp) (a : Addr) (xs : List V) : Prop := (F a ∧ (H a = some (.lst xs) ∨ ∃ o : Obj, H a = some (.frz o (.lst xs)))) ∨
  ∃ (o : Obj) (its : Array Value) (n : Nat), K.lookup a = some o ∧ o.cls = .type "list" ∧ o.dict = none ∧ o.data = .seq its n ∧ its.size ≤ sizeLine ∧ Vals xs its.toList
theorem FlAt.sq {K F H a xs} (h : FlAt K F H a xs) : SqL K H a xs := by
  rcases h with ⟨_, h | ⟨o, h⟩⟩ | h
  · exact .inl (.inl h)
  · exact .inl (.inr ⟨o, h⟩)
  · exact .inr h
mutual
inductive Rep (G : GC) (w : Wd) (H : Hp) : D → V → Prop
  | non : Rep G w H .non .non
  | bl (b : Bool) : Rep G w H (.bl b) (.bl b)
  | int (i : Int) : Rep G w H (.int i) (.int i)
  | str (s : List Nat) : Rep G w H (.str s) (.str ⟨s.toArray⟩)
  | lst {a : Addr} {vs : List V} {ds : List D} : w.F a → H a = some (.lst vs) → RepAll G w H ds vs → Rep G w H (.lst ds) (.ref a)
  | fl {a : Addr} {vs : List V} {ds : List D} : FlAt G.K w.F H a vs → RepAll G w H ds vs → Rep G w H (.fl ds) (.ref a)
  | tup {a : Addr} {vs : List V} {ds : List D} : TupAt G.K w.F H a vs → RepAll G w H ds vs → Rep G w H (.tup ds) (.ref a)
  | dk {a : Addr} {ks : List KY} {vs : List D} {ws : List V} : w.F a → H a = some (.dK ((ks.map kyK).zip ws)) → ks.length = ws.length → RepAll G w H vs ws → Rep G w H (.dk ks vs) (.ref a)
  | obj {a dx : Addr} {c : Nat} {fs : List D} {ws : List V} : w.F a → H a = some (.ins (G.cls c) dx ((G.fnm c).zip ws)) → (G.fnm c).length = ws.length → RepAll G w H fs ws → Rep G w H (.obj c fs) (.ref a)
  | hnd {n : Nat} {a : Addr} : w.L[n]? = some a → Rep G w H (.hnd n) (.ref a)
inductive RepAll (G : GC) (w : Wd) (H : Hp) : List D → List V → Prop
  | nil : RepAll G w H [] []
  | cons {d : D} {ds : List D} {v : V} {vs : List V} : Rep G w H d v → RepAll G w H ds vs → RepAll G w H (d :: ds) (v :: vs)
end

structure Le (w : Wd) (H : Hp) (w' : Wd) (H' : Hp) : Prop where
  F : ∀ a, w.F a → w'.F a
  eq : ∀ a, w.F a → H' a = H a
  L : ∀ (n : Nat) a, w.L[n]? = some a → w'.L[n]? = some a
theorem TupAt.mono {K} {w w' : Wd} {H H' : Hp} {a xs} (l : Le w H w' H') (h : TupAt K w.F H a xs) : TupAt K w'.F H' a xs :=
  h.elim (fun ⟨f, o, d, x⟩ => .inl ⟨l.F _ f, o, d, (l.eq _ f).trans x⟩) .inr
theorem FlAt.mono {K} {w w' : Wd} {H H' : Hp} {a xs} (l : Le w H w' H') (h : FlAt K w.F H a xs) : FlAt K w'.F H' a xs :=
  h.elim (fun ⟨f, x⟩ => .inl ⟨l.F _ f, by rw [l.eq _ f]; exact x⟩) .inr
section
variable {G : GC} {w w' : Wd} {H H' : Hp}
mutual
theorem Rep.mono (l : Le w H w' H') : ∀ {d : D} {v : V}, Rep G w H d v → Rep G w' H' d v
  | _, _, .non => .non
  | _, _, .bl b => .bl b
  | _, _, .int i => .int i
  | _, _, .str s => .str s
  | _, _, .lst f h r => .lst (l.F _ f) ((l.eq _ f).trans h) (RepAll.mono l r)
  | _, _, .fl h r => .fl (h.mono l) (RepAll.mono l r)
  | _, _, .tup h r => .tup (h.mono l) (RepAll.mono l r)
  | _, _, .dk f h e r => .dk (l.F _ f) ((l.eq _ f).trans h) e (RepAll.mono l r)
  | _, _, .obj f h e r => .obj (l.F _ f) ((l.eq _ f).trans h) e (RepAll.mono l r)
  | _, _, .hnd h => .hnd (l.L _ _ h)
theorem RepAll.mono (l : Le w H w' H') : ∀ {ds : List D} {vs : List V}, RepAll G w H ds vs → RepAll G w' H' ds vs
  | _, _, .nil => .nil
  | _, _, .cons h r => .cons (Rep.mono l h) (RepAll.mono l r)
end
theorem RepAll.length : ∀ {ds : List D} {vs : List V}, RepAll G w H ds vs → ds.length = vs.length
  | _, _, .nil => rfl
  | _, _, .cons _ r => by rw [List.length_cons, List.length_cons, RepAll.length r]
theorem RepAll.get : ∀ {ds : List D} {vs : List V} {i : Nat} {d : D}, RepAll G w H ds vs → ds[i]? = some d → ∃ v, vs[i]? = some v ∧ Rep G w H d v
  | _, _, _, _, .nil, e => by simp at e
  | _, _, 0, _, .cons h _, e => by simp at e; subst e; exact ⟨_, rfl, h⟩
  | _, _, i + 1, d, .cons _ r, e => by
    obtain ⟨v, h1, h2⟩ := RepAll.get (i := i) (d := d) r (by simpa using e)
    exact ⟨v, by simpa using h1, h2⟩
theorem RepAll.getV : ∀ {ds : List D} {vs : List V} {i : Nat} {v : V}, RepAll G w H ds vs → vs[i]? = some v → ∃ d, ds[i]? = some d ∧ Rep G w H d v
  | _, _, _, _, .nil, e => by simp at e
  | _, _, 0, _, .cons h _, e => by simp at e; subst e; exact ⟨_, rfl, h⟩
  | _, _, i + 1, d, .cons _ r, e => by
    obtain ⟨v, h1, h2⟩ := RepAll.getV (i := i) (v := d) r (by simpa using e)
    exact ⟨v, by simpa using h1, h2⟩
theorem RepAll.append : ∀ {ds es : List D} {vs us : List V}, RepAll G w H ds vs → RepAll G w H es us → RepAll G w H (ds ++ es) (vs ++ us)
  | _, _, _, _, .nil, s => s
  | _, _, _, _, .cons h r, s => .cons h (RepAll.append r s)
theorem RepAll.take : ∀ {ds : List D} {vs : List V} (n : Nat), RepAll G w H ds vs → RepAll G w H (ds.take n) (vs.take n)
  | _, _, 0, _ => .nil
  | _, _, _ + 1, .nil => .nil
  | _, _, n + 1, .cons h r => .cons h (RepAll.take n r)
theorem RepAll.drop : ∀ {ds : List D} {vs : List V} (n : Nat), RepAll G w H ds vs → RepAll G w H (ds.drop n) (vs.drop n)
  | _, _, 0, r => r
  | _, _, _ + 1, .nil => .nil
  | _, _, n + 1, .cons _ r => RepAll.drop n r
theorem RepAll.set : ∀ {ds : List D} {vs : List V} (n : Nat) {d : D} {v : V}, RepAll G w H ds vs → Rep G w H d v → RepAll G w H (ds.set n d) (vs.set n v)
  | _, _, _, _, _, .nil, _ => .nil
  | _, _, 0, _, _, .cons _ r, h => .cons h r
  | _, _, n + 1, _, _, .cons q r, h => .cons q (RepAll.set n r h)
theorem RepAll.reverse : ∀ {ds : List D} {vs : List V}, RepAll G w H ds vs → RepAll G w H ds.reverse vs.reverse
  | _, _, .nil => .nil
  | _, _, .cons h r => by
    rw [List.reverse_cons, List.reverse_cons]
    exact (RepAll.reverse r).append (.cons h .nil)
end

/-! ### handles, worlds -/
def HRep (G : GC) (w : Wd) (H : Hp) : HD → Addr → Prop
  | .lst ds, a => ∃ vs, H a = some (.lst vs) ∧ RepAll G w H ds vs
  | .dk ks vs, a => ∃ ws, H a = some (.dK ((ks.map kyK).zip ws)) ∧ ks.length = ws.length ∧ RepAll G w H vs ws
  | .ins c fs, a => ∃ dx ws, H a = some (.ins (G.cls c) dx (((G.fnm c).take fs.length).zip ws)) ∧ fs.length ≤ (G.fnm c).length ∧ RepAll G w H fs ws
/-- no table of code objects -/
def NTo (o : HO) : Prop := ∀ ps, o ≠ .tbl ps
structure WRel (G : GC) (w : Wd) (H : Hp) (st : HSt) : Prop where
  fz : ∀ a, w.F a → H a ≠ none
  sep : ∀ a, a ∈ w.L → ¬ w.F a
  nd : w.L.Nodup
  len : w.L.length = st.length
  at_ : ∀ (n : Nat) hd, st[n]? = some hd → ∃ a, w.L[n]? = some a ∧ HRep G w H hd a
  nt : ∀ a o, w.F a → H a = some o → NTo o
  tb : LamX.Tabs G.T H
/-- nothing stands there but a table of code objects -/
def Fre (H : Hp) (a : Addr) : Prop := ∀ o, H a = some o → ¬ NTo o
theorem Fre.of {H : Hp} {a : Addr} (h : H a = none) : Fre H a := fun o e => by rw [h] at e; cases e
structure Ext (w : Wd) (H : Hp) (w' : Wd) (H' : Hp) : Prop where
  F : ∀ a, w.F a → w'.F a
  L : ∀ (n : Nat) a, w.L[n]? = some a → w'.L[n]? = some a
  same : ∀ a o, H a = some o → a ∉ w.L → NTo o → H' a = some o
  newF : ∀ a, w'.F a → w.F a ∨ Fre H a
  newL : ∀ a, a ∈ w'.L → a ∈ w.L ∨ Fre H a
  there : ∀ a o, H a = some o → NTo o → ∃ o', H' a = some o' ∧ NTo o'
/-- nothing but new frozen things -/
structure PExt (w : Wd) (H : Hp) (w' : Wd) (H' : Hp) : Prop where
  F : ∀ a, w.F a → w'.F a
  L : w'.L = w.L
  same : ∀ a o, H a = some o → H' a = some o
  newF : ∀ a, w'.F a → w.F a ∨ (H a = none ∧ ∃ o, H' a = some o ∧ NTo o)
section
variable {G : GC} {w w1 w2 : Wd} {H H1 H2 : Hp} {st st1 st2 : HSt}
theorem WRel.Ltrk (r : WRel G w H st) {a : Addr} (h : a ∈ w.L) : H a ≠ none := by
  obtain ⟨n, hn⟩ := List.getElem?_of_mem h
  have hl : n < st.length := by rw [← r.len]; exact (List.getElem?_eq_some_iff.mp hn).1
  obtain ⟨a', e, q⟩ := r.at_ n st[n] (List.getElem?_eq_getElem hl)
  rw [hn] at e; cases e
  intro z
  cases hx : st[n] with
  | lst ds => rw [hx] at q; obtain ⟨_, q, _⟩ := q; rw [z] at q; cases q
  | dk ks vs => rw [hx] at q; obtain ⟨_, q, _⟩ := q; rw [z] at q; cases q
  | ins c fs => rw [hx] at q; obtain ⟨_, _, q, _⟩ := q; rw [z] at q; cases q
theorem Ext.refl : Ext w H w H := ⟨fun _ h => h, fun _ _ h => h, fun _ _ h _ _ => h, fun _ h => .inl h, fun _ h => .inl h, fun _ o h n => ⟨o, h, n⟩⟩
theorem Ext.le (r : WRel G w H st) (e : Ext w H w1 H1) : Le w H w1 H1 where
  F := e.F
  L := e.L
  eq := fun a h => by
    cases q : H a with
    | none => exact absurd q (r.fz a h)
    | some o => exact e.same a o q (fun z => r.sep a z h) (r.nt a o h q)
theorem Ext.fre (a : Ext w H w1 H1) {x : Addr} (q : Fre H1 x) : Fre H x := fun o h n => by
  obtain ⟨o', h', n'⟩ := a.there x o h n
  exact q o' h' n'
theorem Ext.trans (a : Ext w H w1 H1) (b : Ext w1 H1 w2 H2) : Ext w H w2 H2 where
  F := fun x h => b.F x (a.F x h)
  L := fun n x h => b.L n x (a.L n x h)
  same := fun x o h hn ht => b.same x o (a.same x o h hn ht) (fun z => by
    rcases a.newL x z with q | q
    · exact hn q
    · exact q o h ht) ht
  newF := fun x h => by
    rcases b.newF x h with q | q
    · exact a.newF x q
    · exact .inr (a.fre q)
  newL := fun x h => by
    rcases b.newL x h with q | q
    · exact a.newL x q
    · exact .inr (a.fre q)
  there := fun x o h n => by
    obtain ⟨o', h', n'⟩ := a.there x o h n
    exact b.there x o' h' n'
theorem PExt.ext (p : PExt w H w1 H1) : Ext w H w1 H1 where
  F := p.F
  L := fun n a h => by rw [p.L]; exact h
  same := fun a o h _ _ => p.same a o h
  newF := fun a h => (p.newF a h).imp id fun z => .of z.1
  newL := fun a h => .inl (by rw [← p.L]; exact h)
  there := fun a o h n => ⟨o, p.same a o h, n⟩
theorem PExt.refl : PExt w H w H := ⟨fun _ h => h, rfl, fun _ _ h => h, fun _ h => .inl h⟩
theorem PExt.trans (a : PExt w H w1 H1) (b : PExt w1 H1 w2 H2) : PExt w H w2 H2 where
  F := fun x h => b.F x (a.F x h)
  L := b.L.trans a.L
  same := fun x o h => b.same x o (a.same x o h)
  newF := fun x h => by
    rcases b.newF x h with q | ⟨q, q2⟩
    · rcases a.newF x q with z | ⟨z, z2⟩
      · exact .inl z
      · refine .inr ⟨z, ?_⟩
        obtain ⟨o, y, n⟩ := z2
        exact ⟨o, b.same x o y, n⟩
    · refine .inr ⟨?_, q2⟩
      cases z : H x with
      | none => rfl
      | some o => rw [a.same x o z] at q; cases q
theorem HRep.mono {hd : HD} {a : Addr} (l : Le w H w1 H1) (h : HRep G w H hd a) (e : H1 a = H a) : HRep G w1 H1 hd a := by
  cases hd with
  | lst ds => obtain ⟨vs, q, r⟩ := h; exact ⟨vs, e.trans q, r.mono l⟩
  | dk ks vs => obtain ⟨ws, q, z, r⟩ := h; exact ⟨ws, e.trans q, z, r.mono l⟩
  | ins c fs => obtain ⟨dx, ws, q, z, r⟩ := h; exact ⟨dx, ws, e.trans q, z, r.mono l⟩
theorem PExt.wrel (p : PExt w H w1 H1) (r : WRel G w H st) : WRel G w1 H1 st where
  fz := fun a h z => by
    rcases p.newF a h with q | ⟨_, o, q, _⟩
    · cases y : H a with
      | none => exact r.fz a q y
      | some o => rw [p.same a o y] at z; cases z
    · rw [q] at z; cases z
  sep := fun a h q => by
    rw [p.L] at h
    rcases p.newF a q with z | ⟨z, _⟩
    · exact r.sep a h z
    · exact r.Ltrk h z
  nd := by rw [p.L]; exact r.nd
  len := by rw [p.L]; exact r.len
  at_ := fun n hd h => by
    obtain ⟨a, e, q⟩ := r.at_ n hd h
    refine ⟨a, by rw [p.L]; exact e, q.mono (p.ext.le r) ?_⟩
    cases y : H a with
    | none => exact absurd y (r.Ltrk (List.mem_of_getElem? e))
    | some o => exact p.same a o y
  nt := fun a o h e => by
    rcases p.newF a h with q | ⟨_, o', q, n⟩
    · cases y : H a with
      | none => exact absurd y (r.fz a q)
      | some u =>
        rw [p.same a u y] at e
        cases e
        exact r.nt a _ q y
    · rw [q] at e; cases e; exact n
  tb := r.tb.ext fun b o h => p.same b o h
theorem tabs_new {T : List (Addr × Str)} {p : Addr} {o : HO} (h : LamX.Tabs T H) (hp : H p = none) : LamX.Tabs T (upd H p o) :=
  h.ext fun b u e => by rw [upd_ne (ne_of_none e hp)]; exact e
/-- no table, no code object -/
def Pl (o : HO) : Prop := NTo o ∧ ∀ f, o ≠ .ext f
theorem tabs_write {T : List (Addr × Str)} {p : Addr} {o0 o : HO} (h : LamX.Tabs T H) (hp : H p = some o0) (pl : Pl o0) : LamX.Tabs T (upd H p o) := by
  intro q hq
  obtain ⟨ps, h1, h2, h3⟩ := h q hq
  refine ⟨ps, ?_, h2, fun pos cv hc => ?_⟩
  · rw [upd_ne (fun z => by rw [z, hp] at h1; cases h1; exact pl.1 _ rfl)]; exact h1
  · obtain ⟨c, e1, e2⟩ := h3 pos cv hc
    refine ⟨c, e1, ?_⟩
    rw [upd_ne (fun z => by rw [z, hp] at e2; cases e2; exact pl.2 _ rfl)]; exact e2
theorem HRep.pl {hd : HD} {a : Addr} (h : HRep G w H hd a) : ∃ o, H a = some o ∧ Pl o := by
  cases hd with
  | lst ds => obtain ⟨vs, q, r⟩ := h; exact ⟨_, q, fun ps => by simp, fun ps => by simp⟩
  | dk ks vs => obtain ⟨ws, q, z, r⟩ := h; exact ⟨_, q, fun ps => by simp, fun ps => by simp⟩
  | ins c fs => obtain ⟨dx, ws, q, z, r⟩ := h; exact ⟨_, q, fun ps => by simp, fun ps => by simp⟩
/-- a new frozen thing at p -/
def Wd.frz (w : Wd) (p : Addr) : Wd := ⟨fun a => w.F a ∨ a = p, w.L⟩
theorem PExt.new {p : Addr} {o : HO} (hp : H p = none) (ho : NTo o := by intro ps; simp) : PExt w H (w.frz p) (upd H p o) where
  F := fun a h => .inl h
  L := rfl
  same := fun a u h => by rw [upd_ne (ne_of_none h hp)]; exact h
  newF := fun a h => by
    rcases h with h | h
    · exact .inl h
    · subst h; exact .inr ⟨hp, o, upd_same, ho⟩
theorem Rep.newLst {p : Addr} {vs : List V} {ds : List D} (r : RepAll G w H ds vs) (wr : WRel G w H st) (hp : H p = none) : Rep G (w.frz p) (upd H p (.lst vs)) (.lst ds) (.ref p) :=
  .lst (.inr rfl) upd_same (r.mono ((PExt.new hp).ext.le wr))
theorem Rep.newTup {p : Addr} {o : Obj} {vs : List V} {ds : List D} (r : RepAll G w H ds vs) (wr : WRel G w H st) (hp : H p = none) (ho : o.dict = none) : Rep G (w.frz p) (upd H p (.frz o (.tup vs))) (.tup ds) (.ref p) :=
  .tup (.inl ⟨.inr rfl, o, ho, upd_same⟩) (r.mono ((PExt.new hp).ext.le wr))
end

/-! ### a frame's slots -/
/-- a slot: is it a list or dict of the frame's own, not yet seen by others; what it holds -/
abbrev Sl := Option (Bool × D)
abbrev EvEnv := List Sl
def OwnAt (G : GC) (w : Wd) (H : Hp) : D → Addr → Prop
  | .lst ds, a => ∃ vs, H a = some (.lst vs) ∧ RepAll G w H ds vs
  | .dk ks vs, a => ∃ ws, H a = some (.dK ((ks.map kyK).zip ws)) ∧ ks.length = ws.length ∧ RepAll G w H vs ws
  | _, _ => False
def SlotR (G : GC) (H0 : Hp) (w : Wd) (H : Hp) (σ : St) (i : Nat) : Bool × D → Prop
  | (false, d) => ∃ v, σ[i]? = some (some v) ∧ Rep G w H d v
  | (true, d) => ∃ a, σ[i]? = some (some (.ref a)) ∧ ¬ w.F a ∧ a ∉ w.L ∧ Fre H0 a ∧ OwnAt G w H d a
structure FR (G : GC) (w0 : Wd) (H0 : Hp) (env : EvEnv) (σ : St) (w : Wd) (H : Hp) (st : HSt) : Prop where
  ext : Ext w0 H0 w H
  wr : WRel G w H st
  len : env.length = σ.length
  sl : ∀ (i : Nat) s, env[i]? = some (some s) → SlotR G H0 w H σ i s
  ap : ∀ (i j : Nat) d e, i ≠ j → env[i]? = some (some (true, d)) → env[j]? = some (some (true, e)) → σ[i]? ≠ σ[j]?
section
variable {G : GC} {w0 w w1 : Wd} {H0 H H1 : Hp} {env : EvEnv} {σ : St} {st st1 : HSt}
theorem OwnAt.mono {d : D} {a : Addr} (l : Le w H w1 H1) (h : OwnAt G w H d a) (e : H1 a = H a) : OwnAt G w1 H1 d a := by
  cases d with
  | lst ds => obtain ⟨vs, q, r⟩ := h; exact ⟨vs, e.trans q, r.mono l⟩
  | dk ks vs => obtain ⟨ws, q, z, r⟩ := h; exact ⟨ws, e.trans q, z, r.mono l⟩
  | _ => exact h.elim
theorem OwnAt.trk {d : D} {a : Addr} (h : OwnAt G w H d a) : H a ≠ none := by
  cases d with
  | lst ds => obtain ⟨vs, q, r⟩ := h; rw [q]; simp
  | dk ks vs => obtain ⟨ws, q, z, r⟩ := h; rw [q]; simp
  | _ => exact h.elim
theorem OwnAt.nt {d : D} {a : Addr} (h : OwnAt G w H d a) : ∃ o, H a = some o ∧ NTo o := by
  cases d with
  | lst ds => obtain ⟨vs, q, r⟩ := h; exact ⟨_, q, fun ps => by simp⟩
  | dk ks vs => obtain ⟨ws, q, z, r⟩ := h; exact ⟨_, q, fun ps => by simp⟩
  | _ => exact h.elim
theorem OwnAt.pl {d : D} {a : Addr} (h : OwnAt G w H d a) : ∃ o, H a = some o ∧ Pl o := by
  cases d with
  | lst ds => obtain ⟨vs, q, r⟩ := h; exact ⟨_, q, fun ps => by simp, fun ps => by simp⟩
  | dk ks vs => obtain ⟨ws, q, z, r⟩ := h; exact ⟨_, q, fun ps => by simp, fun ps => by simp⟩
  | _ => exact h.elim
theorem Ext.own {a : Addr} (e : Ext w H w1 H1) (h1 : ¬ w.F a) (h2 : a ∉ w.L) (h3 : ∃ o, H a = some o ∧ NTo o) : ¬ w1.F a ∧ a ∉ w1.L ∧ H1 a = H a := by
  obtain ⟨o, h3, h4⟩ := h3
  exact ⟨fun z => (e.newF a z).elim h1 fun q => q o h3 h4, fun z => (e.newL a z).elim h2 fun q => q o h3 h4, by rw [h3]; exact e.same a o h3 h2 h4⟩
theorem FR.step (f : FR G w0 H0 env σ w H st) (e : Ext w H w1 H1) (r : WRel G w1 H1 st1) : FR G w0 H0 env σ w1 H1 st1 where
  ext := f.ext.trans e
  wr := r
  len := f.len
  sl := fun i s h => by
    have q := f.sl i s h
    obtain ⟨b, d⟩ := s
    cases b with
    | false => obtain ⟨v, q1, q2⟩ := q; exact ⟨v, q1, q2.mono (e.le f.wr)⟩
    | true =>
      obtain ⟨a, q1, q2, q3, q4, q5⟩ := q
      obtain ⟨z1, z2, z3⟩ := e.own q2 q3 q5.nt
      exact ⟨a, q1, z1, z2, q4, q5.mono (e.le f.wr) z3⟩
  ap := f.ap
/-- a plain value is stored -/
theorem FR.store (f : FR G w0 H0 env σ w H st) {i : Nat} {d : D} {v : V} (r : Rep G w H d v) (hi : i < env.length) : FR G w0 H0 (env.set i (some (false, d))) (σ.set i (some v)) w H st where
  ext := f.ext
  wr := f.wr
  len := by rw [List.length_set, List.length_set]; exact f.len
  sl := fun j s h => by
    by_cases e : i = j
    · subst e
      rw [List.getElem?_set_self hi] at h
      cases h
      exact ⟨v, by rw [List.getElem?_set_self (by rw [← f.len]; exact hi)], r⟩
    · rw [List.getElem?_set_ne e] at h
      have q := f.sl j s h
      obtain ⟨b, d'⟩ := s
      cases b with
      | false => obtain ⟨v', q1, q2⟩ := q; exact ⟨v', by rw [List.getElem?_set_ne e]; exact q1, q2⟩
      | true => obtain ⟨a, q1, q2⟩ := q; exact ⟨a, by rw [List.getElem?_set_ne e]; exact q1, q2⟩
  ap := fun j k d' e' hjk h1 h2 => by
    have n1 : i ≠ j := fun z => by subst z; rw [List.getElem?_set_self hi] at h1; cases h1
    have n2 : i ≠ k := fun z => by subst z; rw [List.getElem?_set_self hi] at h2; cases h2
    rw [List.getElem?_set_ne n1] at h1 ⊢
    rw [List.getElem?_set_ne n2] at h2 ⊢
    exact f.ap j k d' e' hjk h1 h2
end
end Ev
/-! tuples, laid with their objects known -/
namespace L2
open PySem PySem.Spec PyProof.Rows
abbrev tupO (its : List Value) : Obj := { cls := .type "tuple", data := .seq its.toArray }
section
variable {X : Cx} {pins : List (Addr × Obj)} {σ : St} {H : Hp} {s : Shared}
theorem Inv.tnew {its : List Value} {ys : List V} {h' : Heap} {t' : Nat} (I : Inv X pins σ H { s with heap := h' }) (hv : Vals ys its) (hz : ys.length ≤ sizeLine) :
    Inv X pins σ (upd H h'.objs.size (.frz (tupO its) (.tup ys))) { s with heap := h'.push (tupO its), toks := t' } := by
  have q := I.laid (t' := t') (o := .frz (tupO its) (.tup ys)) (a := h'.objs.size) (h' := h'.push (tupO its)) (fun b o e => Heap.get?_push_of_some _ e) (Nat.le_refl _)
    (show ObjOk X.prog X.w _ _ _ (.frz _ (.tup ys)) from ⟨Heap.get?_push_size _ rfl, hz, its, hv, IsTup.new _ _⟩)
  exact q
/-- what a laid tuple hands on -/
def LaidT (H : Hp) (Q : VK) (ys : List V) : Prop := ∀ p (o : Obj), H p = none → o.dict = none → Q (.ref p) (upd H p (.frz o (.tup ys)))
def tTupF (t : TA) : TE := fun σ H Q => t σ H fun xs H1 => xs.length ≤ sizeLine ∧ LaidT H1 Q xs
theorem pe_tupF {es : List Expr} {t : TA} {pos : Pos} {x1} (h : PA X es t) : PE X (.Tuple es x1 pos) (tTupF t) := by
  refine ⟨fun pins s σ H Q I hq => ?_⟩
  refine wpAny_Tuple_spliced (thn (h.run pos pins s σ H _ I hq) fun us s1 ⟨xs, H1, I1, r, z, q⟩ => ⟨by rw [← r.length]; exact z, ?_⟩)
  have hf : H1 s1.heap.objs.size = none := I1.hok.fresh (Nat.le_refl _)
  exact ⟨.ref s1.heap.objs.size, _, I1.tnew (t' := s1.toks) r z, rfl, q _ _ hf rfl⟩
def rCatF (K : PySem.W.Frag) : R2 := fun x y H Q => ∃ a b xs ys, x = .ref a ∧ y = .ref b ∧ SqT K H a xs ∧ SqT K H b ys ∧ xs.length + ys.length ≤ sizeLine ∧
  (xs = [] → Q (.ref b) H) ∧ (xs ≠ [] → ys = [] → Q (.ref a) H) ∧ (xs ≠ [] → ys ≠ [] → LaidT H Q (xs ++ ys))
theorem op_catF : OpR X (binaryOp .Add) (rCatF X.K) := by
  intro pins s σ H x y v u Q I rx ry h
  obtain ⟨a, b, xs, ys, rfl, rfl, ha, hb, hz, q0, q1, q2⟩ := h
  cases rx
  cases ry
  obtain ⟨its, r1, p1, _⟩ := I.tuple ha
  obtain ⟨its2, r2, p2, _⟩ := I.tuple hb
  by_cases hx : xs = []
  · subst hx
    cases r1
    exact cat_tup0 p1 p2 ⟨.ref b, H, I, rfl, q0 rfl⟩
  · refine HT.cat_tup p1 p2 (fun z => hx (r1.nil_iff.mp z)) (fun z => ⟨.ref a, H, I, rfl, q1 hx (r2.nil_iff.mp z)⟩) (fun z => ?_) (by rw [← r1.length, ← r2.length]; exact hz)
    exact ⟨.ref s.heap.objs.size, _, I.tnew (t' := s.toks) (r1.append r2) (by rw [List.length_append]; exact hz), rfl, q2 hx (fun w => z (r2.nil_iff.mpr w)) _ _ (I.hok.fresh (Nat.le_refl _)) rfl⟩
def rSlF (K : PySem.W.Frag) : V → Option Int → Option Int → Hp → VK → Prop := fun x lo hi H Q => ∃ a xs, x = .ref a ∧ SqT K H a xs ∧
  (HT.sIx xs.length 0 lo = 0 ∧ HT.sIx xs.length xs.length hi = xs.length → Q (.ref a) H) ∧ (¬ (HT.sIx xs.length 0 lo = 0 ∧ HT.sIx xs.length xs.length hi = xs.length) → LaidT H Q (cutV xs lo hi))
theorem sl_tupF : SlR X (rSlF X.K) := by
  intro pins s σ H x v vl vu lo hi sl Q I rx hs pl pu h
  obtain ⟨a, xs, rfl, hx, q1, q2⟩ := h
  cases rx
  obtain ⟨its, r, ht, hz⟩ := I.tuple hx
  have hlen : its.toArray.size = xs.length := by rw [List.size_toArray]; exact r.length.symm
  refine ⟨"tuple", _, PyProof.Rows.slot_tuple_getitem.lookup, ht.typeIs, ?_⟩
  by_cases hw : HT.sIx xs.length 0 lo = 0 ∧ HT.sIx xs.length xs.length hi = xs.length
  · exact getItem_tuple_whole ht hs pl pu (by rw [hlen]; exact hw) ⟨.ref a, H, I, rfl, q1 hw⟩
  · refine HT.getItem_tuple_cut ht hs pl pu (by rw [hlen]; exact hw) ?_ (by rw [hlen]; exact hz)
    rw [hlen]
    exact ⟨.ref s.heap.objs.size, _, I.tnew (t' := s.toks) ((r.drop (HT.sIx xs.length 0 lo)).take (HT.sIx xs.length xs.length hi - HT.sIx xs.length 0 lo)) (Nat.le_trans (cutV_length xs lo hi) hz), rfl, q2 hw _ _ (I.hok.fresh (Nat.le_refl _)) rfl⟩
theorem call_tupleF : CallR X (.type "tuple") (fun xs H Q => ∃ p ys, xs = [.ref p] ∧ ((SqL X.K H p ys ∧ LaidT H Q ys) ∨ (SqT X.K H p ys ∧ Q (.ref p) H))) := by
  intro pins s σ H xs us Q I r h
  obtain ⟨p, ys, rfl, h⟩ := h
  obtain ⟨u, rfl, rx⟩ := vals1 r
  cases rx
  rcases h with ⟨hq, q⟩ | ⟨hq, q⟩
  · obtain ⟨its, r', pl, hz⟩ := I.list hq
    have hlen := r'.length
    refine call_tuple_list pl.isList (fun h' kp => ?_) (by simp only [List.size_toArray] <;> omega)
    have I1 : Inv X pins σ H { s with heap := h' } := I.kept (t' := s.toks) kp
    exact ⟨.ref h'.objs.size, _, I1.tnew (t' := s.toks) r' hz, rfl, q _ _ (I1.hok.fresh (Nat.le_refl _)) rfl⟩
  · obtain ⟨its, r', pl, hz⟩ := I.tuple hq
    exact call_tuple_same pl ⟨.ref p, H, I, rfl, q⟩
def rRepF (K : PySem.W.Frag) : R2 := fun x y H Q => ∃ l k xs, x = .ref l ∧ y = .int k ∧ SqT K H l xs ∧ xs ≠ [] ∧ 2 ≤ k ∧ k ≤ 1000 ∧ xs.length ≤ 1000 ∧ LaidT H Q (List.replicate k.toNat xs).flatten
theorem op_repF : OpR X (binaryOp .Mult) (rRepF X.K) := by
  intro pins s σ H x y v u Q I rx ry h
  obtain ⟨l, k, xs, rfl, rfl, hT, hne, h1, h2, hz, q⟩ := h
  cases rx
  obtain ⟨t, rfl⟩ := ry
  obtain ⟨its, r, ⟨⟨cls, dd, data, sl⟩, ho, hc, n, hd⟩, hs⟩ := I.tuple hT
  simp only at hc hd
  subst hc hd
  have hle : its.length = xs.length := r.length.symm
  have hn : its ≠ [] := fun e => hne (by
    rw [e] at hle
    exact List.eq_nil_of_length_eq_zero hle.symm)
  have hi : its.toArray.isEmpty = false := by
    cases its with
    | nil => exact absurd rfl hn
    | cons a b => rfl
  have hsz0 : its.toArray.size = xs.length := by rw [List.size_toArray, hle]
  have hm : ((its.toArray.size : Nat) : Int) * k ≤ 1000000 := by
    rw [hsz0]
    have a1 : ((xs.length : Nat) : Int) * k ≤ 1000 * k := Int.mul_le_mul_of_nonneg_right (by omega) (by omega)
    omega
  have flen : (List.replicate k.toNat its).flatten.length ≤ sizeLine := by
    rw [PyProof.Rows.lm_len_rep_flat, hle, sizeLine_eq]
    have a1 : k.toNat * xs.length ≤ 1000 * 1000 := Nat.mul_le_mul (by omega) hz
    omega
  have c0 : (decide (k < -(2 ^ 63)) || decide (k ≥ 2 ^ 63)) = false := by
    rw [decide_eq_false (by omega), decide_eq_false (by omega)] <;> rfl
  have c1 : (its.toArray.isEmpty || k == 1) = false := by
    rw [hi, Bool.false_or]
    exact beq_eq_false_iff_ne.mpr (by omega)
  have c2 : (decide (k ≤ 0) || its.toArray.isEmpty) = false := by
    rw [hi, Bool.or_false]
    exact decide_eq_false (by omega)
  have c4 : Builtin.Tuple.tupleTooMany (((its.toArray.size : Nat) : Int) * k) = false := by
    unfold Builtin.Tuple.tupleTooMany
    rw [sizeLine_eq]
    exact decide_eq_false (by omega)
  refine wpAny_binaryOp_repeat_ref (T := "tuple") (U := "int") (by decide) ⟨_, ho, rfl⟩ (fun s' => typeIs_int s' k t) noFill_tuple_mul F.fills_int_mul F.slot_int_rmul repeat_tuple F.slot_int_index.lookup
    (call_meets F.slot_int_rmul (typeIs_int s k t) F.entry_int_rmul (F.args_int_rmul_2 _ _) (int_rmul_tuple k t l its.toArray n dd sl)
      ⟨ho, rfl, ⟨_, ho, rfl⟩, call_meets F.slot_tuple_mul ⟨_, ho, rfl⟩ F.entry_tuple_mul (F.args_tuple_mul_2 _ _) (tuple_mulW l its.toArray n dd sl k t c0 c1 c2 (by omega) c4 (by rw [size_rep, List.size_toArray]; exact flen)) ⟨ho, ?_⟩⟩)
  rw [size_rep]
  refine ⟨.ref s.heap.objs.size, _, I.tnew (t' := s.toks) (r.rep k.toNat) ?_, rfl, q _ _ (I.hok.fresh (Nat.le_refl _)) rfl⟩
  rw [PyProof.Rows.lm_len_rep_flat, sizeLine_eq]
  have a1 : k.toNat * xs.length ≤ 1000 * 1000 := Nat.mul_le_mul (by omega) hz
  omega
end
end L2
namespace Ev
open PySem PySem.Spec PyProof.Rows L2

/-! ### results -/
inductive R (α : Type) where
  | ok (a : α) (s : HSt) | exc (c : Nat) (s : HSt) | bad
def R.bind {α β : Type} : R α → (α → HSt → R β) → R β
  | .ok a s, f => f a s
  | .exc c s, _ => .exc c s
  | .bad, _ => .bad
@[simp] theorem R.bind_ok {α β : Type} (a : α) (s : HSt) (f : α → HSt → R β) : (R.ok a s).bind f = f a s := rfl
@[simp] theorem R.bind_exc {α β : Type} (c : Nat) (s : HSt) (f : α → HSt → R β) : (R.exc c s).bind f = .exc c s := rfl
@[simp] theorem R.bind_bad {α β : Type} (f : α → HSt → R β) : (R.bad).bind f = .bad := rfl
def liftO {α : Type} (o : Option α) (s : HSt) : R α := match o with
  | some a => .ok a s
  | none => .bad
@[simp] theorem liftO_some {α : Type} (a : α) (s : HSt) : liftO (some a) s = .ok a s := rfl
@[simp] theorem liftO_none {α : Type} (s : HSt) : liftO (none : Option α) s = .bad := rfl

/-! ### data -/
def eqN : List Nat → List Nat → Bool
  | [], [] => true
  | a :: as, b :: bs => Nat.beq a b && eqN as bs
  | _, _ => false
theorem eqN_iff : ∀ {a b : List Nat}, eqN a b = true ↔ a = b
  | [], [] => by simp [eqN]
  | [], _ :: _ => by simp [eqN]
  | _ :: _, [] => by simp [eqN]
  | a :: as, b :: bs => by simp [eqN, eqN_iff (a := as) (b := bs)]
theorem eqN_dec (a b : List Nat) : eqN a b = decide (a = b) := by
  rw [Bool.eq_iff_iff, eqN_iff]; simp
mutual
def beq : D → D → Bool
  | .non, .non => true
  | .bl a, .bl b => a == b
  | .bl a, .int j => (if a then 1 else 0) == j
  | .int i, .bl b => i == (if b then 1 else 0)
  | .int i, .int j => i == j
  | .str x, .str y => eqN x y
  | .lst xs, .lst ys => beqs xs ys
  | .tup xs, .tup ys => beqs xs ys
  | _, _ => false
def beqs : List D → List D → Bool
  | [], [] => true
  | x :: xs, y :: ys => beq x y && beqs xs ys
  | _, _ => false
end
def okS : List Nat → Bool
  | [] => true
  | c :: s => Nat.blt c 1114112 && okS s
mutual
/-- plain data, nested at most n deep -/
def okD : D → Nat → Bool
  | .non, _ => true
  | .bl _, _ => true
  | .int _, _ => true
  | .str s, _ => okS s
  | .lst ds, n + 1 => okDs ds n
  | .tup ds, n + 1 => okDs ds n
  | _, _ => false
def okDs : List D → Nat → Bool
  | [], _ => true
  | d :: ds, n => okD d n && okDs ds n
end
mutual
def toP : D → PyData
  | .non => .none
  | .bl b => .bool b
  | .int i => .int i
  | .str s => .str ⟨s.toArray⟩
  | .lst ds => .list (toPs ds)
  | .tup ds => .tuple (toPs ds)
  | _ => .none
def toPs : List D → List PyData
  | [] => []
  | d :: ds => toP d :: toPs ds
end
def flatD : D → Bool
  | .non => true
  | .bl _ => true
  | .int _ => true
  | .str _ => true
  | _ => false
/-- the items of a list, a tuple, a list by its handle -/
def seqs (st : HSt) : D → Option (List D)
  | .lst ds => some ds
  | .tup ds => some ds
  | .fl ds => some ds
  | .hnd n => match st[n]? with
    | some (.lst ds) => some ds
    | _ => none
  | _ => none
/-- .. of a list or tuple that nobody changes -/
def seqP : D → Option (List D)
  | .lst ds => some ds
  | .tup ds => some ds
  | .fl ds => some ds
  | _ => none
/-- what a for walks: a list, a tuple, a text's signs -/
def seqI : D → Option (List D)
  | .str s => some (s.map fun c => .str [c])
  | d => seqP d
def keyD : D → Option KY
  | .int i => some (.inl i)
  | .str s => some (.inr s)
  | _ => none
def eqK : KY → KY → Bool
  | .inl i, .inl j => i == j
  | .inr s, .inr t => eqN s t
  | _, _ => false
theorem eqK_iff : ∀ {a b : KY}, eqK a b = true ↔ a = b
  | .inl i, .inl j => by simp [eqK]
  | .inr s, .inr t => by simp [eqK, eqN_iff]
  | .inl i, .inr t => by simp [eqK]
  | .inr s, .inl j => by simp [eqK]
def lookK : List KY → List D → KY → Option D
  | k :: ks, v :: vs, x => if eqK k x then some v else lookK ks vs x
  | _, _, _ => none
def hasK : List KY → KY → Bool
  | [], _ => false
  | k :: ks, x => eqK k x || hasK ks x
def putV : List KY → List D → KY → D → List D
  | k :: ks, v :: vs, x, d => if eqK k x then d :: putV ks vs x d else v :: putV ks vs x d
  | _, _, _, _ => []
/-- the dict behind d[k] = v -/
def putD (ks : List KY) (vs : List D) (k : KY) (d : D) : List KY × List D :=
  if hasK ks k then (ks, putV ks vs k d) else (ks ++ [k], vs ++ [d])
def dictOf (st : HSt) : D → Option (List KY × List D)
  | .dk ks vs => some (ks, vs)
  | .hnd n => match st[n]? with
    | some (.dk ks vs) => some (ks, vs)
    | _ => none
  | _ => none

/-! ### operations -/
inductive OP where
  | add | sub | mul | fdiv | mod | pow | eq | ne | lt | le | gt | ge | is_ | isnot | in_ | notin | idx
def line : Nat := 16777216
def addD : D → D → Option D
  | .int i, .int j => some (.int (i + j))
  | .lst xs, .lst ys => if xs.length + ys.length ≤ line then some (.lst (xs ++ ys)) else none
  | .tup xs, .tup ys => if xs.length + ys.length ≤ line then some (.tup (xs ++ ys)) else none
  | .str x, .str y => if x.length + y.length ≤ line then some (.str (x ++ y)) else none
  | _, _ => none
def subD : D → D → Option D
  | .int i, .int j => some (.int (i - j))
  | _, _ => none
def smallI (i : Int) : Bool := decide (-18446744073709551616 < i) && decide (i < 18446744073709551616)
def mulOk (i j : Int) : Bool := smallI i || smallI j || decide (i.natAbs.log2 + j.natAbs.log2 < 1000000)
def repL (n : Nat) (xs : List D) : List D := (List.replicate n xs).flatten
def mulD : D → D → Option D
  | .int i, .int j => if mulOk i j then some (.int (i * j)) else none
  | .lst xs, .int k => if decide (0 ≤ k) && decide (k < 16777216) && decide (xs.length * k.toNat ≤ line) then some (.lst (repL k.toNat xs)) else none
  | .tup xs, .int k => if decide (2 ≤ k) && decide (k ≤ 1000) && decide (xs.length ≤ 1000) && !xs.isEmpty then some (.tup (repL k.toNat xs)) else none
  | _, _ => none
def fdivD : D → D → Option D
  | .int i, .int j => if decide (0 < j) && decide (j.natAbs.log2 < 9000) then some (.int (i / j)) else none
  | _, _ => none
def modD : D → D → Option D
  | .int i, .int j => if decide (0 < j) then some (.int (i % j)) else none
  | _, _ => none
def powD : D → D → Option D
  | .int i, .int j => if decide (0 ≤ j) && decide (j ≤ 1000) && smallI i then some (.int (i ^ j.toNat)) else none
  | _, _ => none
/-- two flat values, no truth among numbers -/
def scD : D → D → Bool
  | .bl _, .int _ => false
  | .int _, .bl _ => false
  | a, b => flatD a && flatD b
def eqD (a b : D) : Option Bool := match a, b with
  | .fl ds, .lst [] => if okDs ds 50 then some ds.isEmpty else none
  | a, b => if scD a b then some (beq a b) else if okD a 60 && okD b 60 then some (beq a b) else none
def ltN : List Nat → List Nat → Bool
  | [], [] => false
  | [], _ :: _ => true
  | _ :: _, [] => false
  | a :: as, b :: bs => Nat.blt a b || (Nat.beq a b && ltN as bs)
def ltD : D → D → Option Bool
  | .int i, .int j => some (decide (i < j))
  | .str x, .str y => some (ltN x y)
  | _, _ => none
def leD : D → D → Option Bool
  | .int i, .int j => some (decide (i ≤ j))
  | _, _ => none
def isD : D → D → Option Bool
  | .non, .non => some true
  | .bl _, .non => some false
  | .int _, .non => some false
  | .str _, .non => some false
  | .lst _, .non => some false
  | .tup _, .non => some false
  | .dk _ _, .non => some false
  | .obj _ _, .non => some false
  | .hnd _, .non => some false
  | .bl a, .bl b => some (a == b)
  | _, _ => none
def memN : Nat → List Nat → Bool
  | _, [] => false
  | a, b :: bs => Nat.beq a b || memN a bs
def anyEq (x : D) : List D → Bool
  | [] => false
  | d :: ds => beq d x || anyEq x ds
def inD (st : HSt) (a b : D) : Option Bool := match dictOf st b with
  | some (ks, _) => (keyD a).map (hasK ks)
  | none => match b with
    | .str s => (match a with
      | .str [c] => some (memN c s)
      | _ => none)
    | b => match seqs st b with
      | some ds => if flatD a && ds.all flatD then some (anyEq a ds) else if okD a 60 && okDs ds 60 then some (anyEq a ds) else none
      | none => none
def bD (o : Option Bool) : Option D := o.map .bl
def nD (o : Option Bool) : Option D := o.map fun b => .bl (!b)
def idxN (n : Nat) (i : Int) : Option Nat := if 0 ≤ i then (if i < n then some i.toNat else none) else (if -(n : Int) ≤ i then some (i + n).toNat else none)
def idxD (st : HSt) (a b : D) : Option D := match dictOf st a with
  | some (ks, vs) => (keyD b).bind (lookK ks vs)
  | none => match b with
    | .int i => (match a with
      | .str s => if s.length ≤ line then (idxN s.length i).bind fun j => (s[j]?).map fun c => .str [c] else none
      | a => (seqs st a).bind fun ds => (idxN ds.length i).bind fun j => ds[j]?)
    | _ => none
def op2 (st : HSt) : OP → D → D → Option D
  | .add, a, b => addD a b
  | .sub, a, b => subD a b
  | .mul, a, b => mulD a b
  | .fdiv, a, b => fdivD a b
  | .mod, a, b => modD a b
  | .pow, a, b => powD a b
  | .eq, a, b => bD (eqD a b)
  | .ne, a, b => nD (eqD a b)
  | .lt, a, b => bD (ltD a b)
  | .le, a, b => bD (leD a b)
  | .gt, a, b => bD (ltD b a)
  | .ge, a, b => bD (leD b a)
  | .is_, a, b => bD (isD a b)
  | .isnot, a, b => nD (isD a b)
  | .in_, a, b => bD (inD st a b)
  | .notin, a, b => nD (inD st a b)
  | .idx, a, b => idxD st a b

/-! ### built-in calls -/
inductive BI where
  | len | all_ | any_ | sorted | tuple | list | dict | int | str | sum | max2 | min2
inductive TY where
  | str | int | bool | tuple | list
def lenD (st : HSt) : D → Option Nat
  | .str s => if s.length ≤ line then some s.length else none
  | .dk ks _ => some ks.length
  | d => (seqs st d).map List.length
def allB : List D → Option Bool
  | [] => some true
  | .bl b :: ds => (allB ds).map (b && ·)
  | _ :: _ => none
def anyB : List D → Option Bool
  | [] => some false
  | .bl b :: ds => (anyB ds).map (b || ·)
  | _ :: _ => none
def allInt : List D → Option (List Int)
  | [] => some []
  | .int i :: ds => (allInt ds).map (i :: ·)
  | _ :: _ => none
def allStr : List D → Option (List (List Nat))
  | [] => some []
  | .str s :: ds => (allStr ds).map (s :: ·)
  | _ :: _ => none
/-- insertion, stable -/
def insN (x : List Nat) : List (List Nat) → List (List Nat)
  | [] => [x]
  | y :: ys => if ltN y x then y :: insN x ys else x :: y :: ys
def sortN : List (List Nat) → List (List Nat)
  | [] => []
  | x :: xs => insN x (sortN xs)
def pairsK : List D → Option (List (KY × D))
  | [] => some []
  | .tup [k, v] :: ds => (keyD k).bind fun k => (pairsK ds).map ((k, v) :: ·)
  | _ :: _ => none
def putAll : List (KY × D) → List KY × List D → List KY × List D
  | [], r => r
  | (k, v) :: ps, (ks, vs) => putAll ps (putD ks vs k v)
def biD (st : HSt) : BI → List D → Option D
  | .len, [d] => (lenD st d).map fun (n : Nat) => D.int (n : Int)
  | .all_, [.lst ds] => bD (allB ds)
  | .any_, [.lst ds] => bD (anyB ds)
  | .sorted, [.lst ds] => (allStr ds).bind fun ss => if ss.length < 64 then some (.lst ((sortN ss).map .str)) else none
  | .tuple, [d] => (seqs st d).map D.tup
  | .list, [d] => (seqs st d).map D.lst
  | .dict, [.lst ds] => (pairsK ds).map fun ps => .dk (putAll ps ([], [])).1 (putAll ps ([], [])).2
  | .dict, [.tup ds] => (pairsK ds).map fun ps => .dk (putAll ps ([], [])).1 (putAll ps ([], [])).2
  | .dict, [.dk ks vs] => some (.dk ks vs)
  | .int, [.int i] => some (.int i)
  | .int, [.bl b] => some (.int (if b then 1 else 0))
  | .sum, [.lst ds] => (allInt ds).map fun is => .int is.sum
  | .max2, [.int i, .int j] => some (.int (if j > i then j else i))
  | .min2, [.int i, .int j] => some (.int (if j < i then j else i))
  | _, _ => none
def isiD : TY → D → Option Bool
  | .str, .str _ => some true
  | .int, .int _ => some true
  | .int, .bl _ => some true
  | .bool, .bl _ => some true
  | .tuple, .tup _ => some true
  | .list, .lst _ => some true
  | _, .fl _ => none
  | _, .dk _ _ => none
  | _, .obj _ _ => none
  | _, .hnd _ => none
  | _, _ => some false

/-! ### the small language -/
inductive X1 where
  | sset | lset
inductive X2 where
  | index | zipL | kget (k : Nat) (hits : List (List Nat × Int)) (miss : List (List Nat))
inductive Tgt where
  | nm (i : Nat)
  | tp (ts : List Tgt)
mutual
inductive IE where
  | var (i : Nat) | non | bl (b : Bool) | int (i : Int) | str (s : List Nat)
  | glob (k : Nat)
  | tup (es : IEs) | lst (es : IEs) | lstH (es : IEs)
  | dct (ks : IEs) (vs : IEs)
  | op (o : OP) (a b : IE)
  | chn (o o' : OP) (a b c : IE)
  | and2 (a b : IE) | or2 (a b : IE) | not_ (a : IE) | ife (c a b : IE)
  | call (f : Nat) (es : IEs)
  | bi (b : BI) (es : IEs)
  | isi (t : TY) (e : IE)
  | slc (a lo hi : IE)   -- .non: left out
  | rev (a : IE)
  | lc (own : List Nat) (t : Tgt) (src : IS) (elt : IE)
  | lcf (own : List Nat) (t : Tgt) (src : IS) (elt : IE) (cond : IE)
  | dc (own : List Nat) (t : Tgt) (src : IS) (k v : IE)
  | skey (e : IE)
  | told (f : Nat) (e : IE)
  | bor (e : IE)
  | idxO (i : Nat) (b : IE)
  | x1 (o : X1) (a : IE)
  | x2 (o : X2) (a b : IE)
  | dct1 (i : Nat)       -- {x: None}
inductive IEs where
  | nil
  | cons (e : IE) (es : IEs)
/-- what a for or a comprehension walks -/
inductive IS where
  | seq (e : IE)
  | enum (e : IE)
  | zip (a b : IE)
  | range (e : IE)
  | own (i : Nat)
end
def lenE : IEs → Nat
  | .nil => 0
  | .cons _ es => lenE es + 1
def isNonE : IE → Bool
  | .non => true
  | _ => false
/-- a slice's part: left out, or an int -/
def chkP (i : IE) (d : D) : Bool := match d with
  | .non => isNonE i
  | .int _ => !isNonE i
  | _ => false
def guardP (b : Bool) {α : Type} (r : R α) : R α := if b then r else .bad
/-- stored, read: a frame's slots -/
def bindT : EvEnv → Tgt → D → Option EvEnv
  | env, .nm i, d => if i < env.length then some (env.set i (some (false, d))) else none
  | env, .tp ts, d => match d with
    | .tup ds => bindTs env ts ds
    | _ => none
where
  bindTs : EvEnv → List Tgt → List D → Option EvEnv
  | env, [], [] => some env
  | env, t :: ts, d :: ds => (bindT env t d).bind fun env' => bindTs env' ts ds
  | _, _, _ => none
def wipeE (env : EvEnv) : List Nat → EvEnv
  | [] => env
  | v :: vs => (wipeE env vs).set v none
/-- all lists and dicts of one's own are seen by others -/
def frzE : EvEnv → EvEnv
  | [] => []
  | some (_, d) :: r => some (false, d) :: frzE r
  | none :: r => none :: frzE r
def noExc {α : Type} : R α → R α
  | .exc _ _ => .bad
  | r => r
def evLC (b : EvEnv → D → Option EvEnv) (c : EvEnv → HSt → R D) (e : EvEnv → HSt → R D) (env : EvEnv) : List D → HSt → R (List D)
  | [], st => .ok [] st
  | d :: ds, st => match b env d with
    | none => .bad
    | some env' => (c env' st).bind fun t st => match t with
      | .bl true => (e env' st).bind fun x st => (evLC b c e env ds st).bind fun xs st => .ok (x :: xs) st
      | .bl false => evLC b c e env ds st
      | _ => .bad
def evDC (b : EvEnv → D → Option EvEnv) (k v : EvEnv → HSt → R D) (env : EvEnv) : List D → List KY × List D → HSt → R D
  | [], r, st => .ok (.dk r.1 r.2) st
  | d :: ds, r, st => match b env d with
    | none => .bad
    | some env' => (k env' st).bind fun x st => (v env' st).bind fun y st => match keyD x with
      | some x => evDC b k v env ds (putD r.1 r.2 x y) st
      | none => .bad
def enumD : Nat → List D → List D
  | _, [] => []
  | n, d :: ds => .tup [.int n, d] :: enumD (n + 1) ds
def zipD : List D → List D → List D
  | a :: as, b :: bs => .tup [a, b] :: zipD as bs
  | _, _ => []
def rangeD : Nat → Int → List D
  | 0, _ => []
  | n + 1, i => .int i :: rangeD n (i + 1)
def cutI (n d : Nat) : D → Option Nat
  | .non => some d
  | .int v => some (if v < 0 then (v + (n : Int)).toNat else min v.toNat n)
  | _ => none
def slcD (st : HSt) (a lo hi : D) : Option D := match a with
  | .str s => (cutI s.length 0 lo).bind fun i => (cutI s.length s.length hi).bind fun j => if s.length ≤ line then some (.str ((s.drop i).take (j - i))) else none
  | .tup ds => (cutI ds.length 0 lo).bind fun i => (cutI ds.length ds.length hi).map fun j => .tup ((ds.drop i).take (j - i))
  | a => (seqs st a).bind fun ds => (cutI ds.length 0 lo).bind fun i => (cutI ds.length ds.length hi).map fun j => .lst ((ds.drop i).take (j - i))
/-- by their first items, texts, stable -/
def isTup : D → Bool
  | .tup _ => true
  | _ => false
def firstS : D → Option (List Nat)
  | .tup (.str s :: _) => some s
  | _ => none
def insK (x : D) (k : List Nat) : List (List Nat × D) → List (List Nat × D)
  | [] => [(k, x)]
  | y :: ys => if ltN y.1 k then y :: insK x k ys else (k, x) :: y :: ys
def sortK : List D → Option (List (List Nat × D))
  | [] => some []
  | d :: ds => (firstS d).bind fun k => (sortK ds).map (insK d k)

/-- texts, each once -/
def dedN : List (List Nat) → List (List Nat)
  | [] => []
  | x :: xs => if xs.any (fun y => eqN y x) then dedN xs else x :: dedN xs
/-- one more operand's worth of calls -/
def x1D : X1 → D → Option D
  | .sset, .lst ds => (allStr ds).bind fun ss => if ss.length < 60 then some (.lst ((sortN (dedN ss)).map .str)) else none
  | .lset, .lst ds => (allStr ds).bind fun ss => if ss.length < 60 then some (.int (dedN ss).length) else none
  | _, _ => none
def firstAt (y : D) : List D → Option Nat
  | [] => none
  | d :: ds => if beq d y then some 0 else (firstAt y ds).map (· + 1)
def hitN : List (List Nat × Int) → List Nat → Option Int
  | [], _ => none
  | p :: r, s => if eqN p.1 s then some p.2 else hitN r s
def x2D : X2 → D → D → Option D
  | .index, .lst ds, y => if flatD y && ds.all flatD then (firstAt y ds).map fun (n : Nat) => D.int n else none
  | .zipL, .lst xs, .lst ys => if xs.length ≤ 1000 then some (.lst (zipD xs ys)) else none
  | .kget _ hits miss, .str s, .int i => (match hitN hits s with
    | some j => some (.int j)
    | none => if miss.any (fun z => eqN z s) then some (.int i) else none)
  | _, _, _ => none
def x2ok : X2 → D → Bool
  | .index, .lst _ => true
  | .zipL, .lst _ => true
  | .kget _ _ _, .str _ => true
  | _, _ => false
structure FDef where
  ar : Nat
  n : Nat
structure Tabs where
  con : Nat → Option D
/-- the calls' meaning -/
abbrev CT := Nat → List D → HSt → R D
/-- told: an exception becomes a value -/
def tdR (TD : Nat → Nat → Option D) (f : Nat) : R D → R D
  | .exc c st => liftO (TD f c) st
  | r => r
section
variable (con : Nat → Option D) (C : CT) (TD : Nat → Nat → Option D)
mutual
def evE (env : EvEnv) : IE → HSt → R D
  | .var i, st => match env[i]? with
    | some (some (false, d)) => .ok d st
    | _ => .bad
  | .non, st => .ok .non st
  | .bl b, st => .ok (.bl b) st
  | .int i, st => .ok (.int i) st
  | .str s, st => .ok (.str s) st
  | .glob k, st => liftO (con k) st
  | .tup es, st => (evEs env es st).bind fun ds st => .ok (.tup ds) st
  | .lst es, st => (evEs env es st).bind fun ds st => .ok (.lst ds) st
  | .lstH es, st => (evEs env es st).bind fun ds st => .ok (.hnd st.length) (st ++ [.lst ds])
  | .dct ks vs, st => match ks, vs with
    | .nil, .nil => .ok (.dk [] []) st
    | _, _ => .bad
  | .op o a b, st => (evE env a st).bind fun x st => (evE env b st).bind fun y st => liftO (op2 st o x y) st
  | .chn o o' a b c, st => (evE env a st).bind fun x st => (evE env b st).bind fun y st => match op2 st o x y with
    | some (.bl true) => (evE env c st).bind fun z st => liftO (op2 st o' y z) st
    | some (.bl false) => .ok (.bl false) st
    | _ => .bad
  | .and2 a b, st => (evE env a st).bind fun x st => match x with
    | .bl true => evE env b st
    | .bl false => .ok (.bl false) st
    | _ => .bad
  | .or2 a b, st => (evE env a st).bind fun x st => match x with
    | .bl true => .ok (.bl true) st
    | .bl false => evE env b st
    | _ => .bad
  | .not_ a, st => (evE env a st).bind fun x st => match x with
    | .bl b => .ok (.bl (!b)) st
    | _ => .bad
  | .ife c a b, st => (evE env c st).bind fun x st => match x with
    | .bl true => evE env a st
    | .bl false => evE env b st
    | _ => .bad
  | .call f es, st => (evEs env es st).bind fun ds st => C f ds st
  | .bi b es, st => (evEs env es st).bind fun ds st => liftO (biD st b ds) st
  | .isi t e, st => (evE env e st).bind fun x st => liftO (bD (isiD t x)) st
  | .slc a lo hi, st => (evE env a st).bind fun x st => (evE env lo st).bind fun l st => guardP (chkP lo l) ((evE env hi st).bind fun h st => guardP (chkP hi h) (liftO (slcD st x l h) st))
  | .rev a, st => (evE env a st).bind fun x st => match x with
    | .lst ds => .ok (.lst ds.reverse) st
    | _ => .bad
  | .lc own t src elt, st => (evI env src st).bind fun ds st => guardP (Nat.ble ds.length line) ((noExc (evLC (fun e d => bindT e t d) (fun _ st => .ok (.bl true) st) (fun e st => evE e elt st) (wipeE env own) ds st)).bind fun ds st => .ok (.lst ds) st)
  | .lcf own t src elt cond, st => (evI env src st).bind fun ds st => guardP (Nat.ble ds.length line) ((noExc (evLC (fun e d => bindT e t d) (fun e st => evE e cond st) (fun e st => evE e elt st) (wipeE env own) ds st)).bind fun ds st => .ok (.lst ds) st)
  | .dc own t src k v, st => (evI env src st).bind fun ds st => guardP (Nat.ble ds.length line) (noExc (evDC (fun e d => bindT e t d) (fun e st => evE e k st) (fun e st => evE e v st) (wipeE env own) ds ([], []) st))
  | .skey e, st => (evE env e st).bind fun x st => match x with
    | .lst ds => liftO ((sortK ds).map fun l => .lst (l.map (·.2))) st
    | _ => .bad
  | .told f e, st => tdR TD f (evE env e st)
  | .bor e, st => match evE (frzE env) e st with
    | .ok d st => if flatD d then .ok d st else .bad
    | _ => .bad
  | .idxO i b, st => match env[i]? with
    | some (some (true, d)) => (evE env b st).bind fun y st => liftO (idxD st d y) st
    | _ => .bad
  | .x1 o a, st => (evE env a st).bind fun x st => liftO (x1D o x) st
  | .x2 o a b, st => (evE env a st).bind fun x st => guardP (x2ok o x) ((evE env b st).bind fun y st => liftO (x2D o x y) st)
  | .dct1 i, st => match env[i]? with
    | some (some (false, .str s)) => .ok (.dk [.inr s] [.non]) st
    | _ => .bad
def evEs (env : EvEnv) : IEs → HSt → R (List D)
  | .nil, st => .ok [] st
  | .cons e es, st => (evE env e st).bind fun d st => (evEs env es st).bind fun ds st => .ok (d :: ds) st
def evI (env : EvEnv) : IS → HSt → R (List D)
  | .seq e, st => (evE env e st).bind fun d st => liftO (seqI d) st
  | .enum e, st => (evE env e st).bind fun d st => if isTup d then .bad else (liftO (seqP d) st).bind fun ds st => .ok (enumD 0 ds) st
  | .zip a b, st => (evE env a st).bind fun d st => (evE env b st).bind fun d' st => if isTup d == isTup d' then (liftO (seqP d) st).bind fun ds st => (liftO (seqP d') st).bind fun ds' st => .ok (zipD ds ds') st else .bad
  | .range e, st => (evE env e st).bind fun d st => match d with
    | .int i => if -4611686018427387904 ≤ i ∧ i < 4611686018427387904 then .ok (rangeD i.toNat 0) st else .bad
    | _ => .bad
  | .own i, st => match env[i]? with
    | some (some (true, .lst ds)) => .ok ds st
    | _ => .bad
end
end
end Ev
namespace Ev
open PySem PySem.Spec PyProof.Rows L2

/-- the names: classes' addresses, their fields -/
structure GN where
  cls : Nat → Addr
  fnm : Nat → List Str
  T : List (Addr × Str)
  td : Nat → Nat → Option D   -- what the told defs make of an exception
abbrev Gx (X : Cx) (g : GN) : GC := ⟨X.K, g.cls, g.fnm, g.T⟩
def PY (G : GC) (w : Wd) (H : Hp) (d : D) (Q : VK) : Prop := ∀ w' H' v, PExt w H w' H' → Rep G w' H' d v → Q v H'
def rP2 (G : GC) (f : HSt → D → D → Option D) : R2 := fun x y H Q => ∃ w st d1 d2 d, WRel G w H st ∧ Rep G w H d1 x ∧ Rep G w H d2 y ∧ f st d1 d2 = some d ∧ PY G w H d Q

section
variable {G : GC} {w : Wd} {H : Hp} {st : HSt}
theorem PY.here {d : D} {v : V} {Q : VK} (p : PY G w H d Q) (r : Rep G w H d v) : Q v H := p w H v .refl r
theorem PY.lst {ds : List D} {vs : List V} {Q : VK} (p : PY G w H (.lst ds) Q) (wr : WRel G w H st) (r : RepAll G w H ds vs) : ∀ q, H q = none → Q (.ref q) (upd H q (.lst vs)) :=
  fun q hq => p _ _ _ (.new hq) (Rep.newLst r wr hq)
theorem PY.tup {ds : List D} {vs : List V} {Q : VK} (p : PY G w H (.tup ds) Q) (wr : WRel G w H st) (r : RepAll G w H ds vs) : ∀ q (o : Obj), H q = none → o.dict = none → Q (.ref q) (upd H q (.frz o (.tup vs))) :=
  fun q o hq ho => p _ _ _ (.new hq) (Rep.newTup r wr hq ho)
/-- a list's items, where it stands -/
theorem Rep.sqL {d : D} {v : V} {ds : List D} (wr : WRel G w H st) (r : Rep G w H d v) (h : seqs st d = some ds) (ht : ∀ es, d ≠ .tup es) : ∃ a vs, v = .ref a ∧ SqL G.K H a vs ∧ RepAll G w H ds vs := by
  cases r with
  | lst f l a => cases h; exact ⟨_, _, rfl, SqL.of l, a⟩
  | fl l a => cases h; exact ⟨_, _, rfl, l.sq, a⟩
  | tup l a => exact absurd rfl (ht _)
  | @hnd n a hn =>
    simp only [seqs] at h
    split at h
    · rename_i ds' e
      cases h
      obtain ⟨a', e1, vs, e2, q⟩ := wr.at_ n _ e
      rw [hn] at e1; cases e1
      exact ⟨_, vs, rfl, SqL.of e2, q⟩
    · cases h
  | _ => cases h
theorem Rep.sq {d : D} {v : V} {ds : List D} (wr : WRel G w H st) (r : Rep G w H d v) (h : seqs st d = some ds) : ∃ a vs, v = .ref a ∧ (SqL G.K H a vs ∨ SqT G.K H a vs) ∧ RepAll G w H ds vs := by
  by_cases ht : ∃ es, d = .tup es
  · obtain ⟨es, rfl⟩ := ht
    cases h
    cases r with
    | tup l a => exact ⟨_, _, rfl, .inr l.sq, a⟩
  · obtain ⟨a, vs, e, q, r⟩ := r.sqL wr h (fun es e => ht ⟨es, e⟩)
    exact ⟨a, vs, e, .inl q, r⟩
/-! ### data -/
theorem okS_iff : ∀ {s : List Nat}, okS s = true → (⟨s.toArray⟩ : Str).cps.all (· < 0x110000) = true := by
  intro s h
  simp only [List.all_toArray]
  induction s with
  | nil => rfl
  | cons c s ih =>
    simp only [okS, Bool.and_eq_true] at h
    rw [List.all_cons, Bool.and_eq_true]
    refine ⟨?_, ih h.2⟩
    have q : Nat.blt c 1114112 = true := h.1
    have q2 : c < 1114112 := by simpa [Nat.blt_eq] using q
    simpa using q2
theorem str_toList (s : List Nat) : (⟨s.toArray⟩ : Str).cps.toList = s := rfl
theorem str_beq (s t : List Nat) : ((⟨s.toArray⟩ : Str) == ⟨t.toArray⟩) = eqN s t := by
  rw [eqN_dec, Bool.eq_iff_iff]
  simp
mutual
theorem dp_of : ∀ {d : D} {v : V} {n : Nat}, okD d n = true → Rep G w H d v → Dp G.K H v (toP d)
  | _, _, _, _, .non => .non
  | _, _, _, _, .bl b => .bl b
  | _, _, _, _, .int i => .int i
  | _, _, _, _, .str s => .str _
  | _, _, 0, h, .lst .. => by simp [okD] at h
  | _, _, 0, h, .tup _ _ => by simp [okD] at h
  | _, _, _, h, .fl .. => by simp [okD] at h
  | _, _, n + 1, h, .lst f l r => .lst (SqL.of l) (dps_of (by simpa [okD] using h) r)
  | _, _, n + 1, h, .tup l r => .tup l.sq (dps_of (by simpa [okD] using h) r)
  | _, _, _, h, .dk .. => by simp [okD] at h
  | _, _, _, h, .obj .. => by simp [okD] at h
  | _, _, _, h, .hnd .. => by simp [okD] at h
theorem dps_of : ∀ {ds : List D} {vs : List V} {n : Nat}, okDs ds n = true → RepAll G w H ds vs → DpAll G.K H vs (toPs ds)
  | _, _, _, _, .nil => .nil
  | _, _, n, h, .cons q r => by
    simp only [okDs, Bool.and_eq_true] at h
    exact .cons (dp_of h.1 q) (dps_of h.2 r)
end
mutual
theorem ok_shape : ∀ (d : D) (n : Nat), okD d n = true → (toP d).canLay0 = true ∧ (toP d).depth ≤ n
  | .non, _, _ => by simp [toP, PyData.canLay0, PyData.depth]
  | .bl b, _, _ => by simp [toP, PyData.canLay0, PyData.depth]
  | .int i, _, _ => by simp [toP, PyData.canLay0, PyData.depth]
  | .str s, _, h => by
    simp only [toP, PyData.canLay0, PyData.depth]
    exact ⟨okS_iff (by simpa [okD] using h), Nat.zero_le _⟩
  | .lst ds, n + 1, h => by
    obtain ⟨a, b⟩ := oks_shape ds n (by simpa [okD] using h)
    simp only [toP, PyData.canLay0, PyData.depth]
    exact ⟨a, by omega⟩
  | .tup ds, n + 1, h => by
    obtain ⟨a, b⟩ := oks_shape ds n (by simpa [okD] using h)
    simp only [toP, PyData.canLay0, PyData.depth]
    exact ⟨a, by omega⟩
  | .lst _, 0, h => by simp [okD] at h
  | .tup _, 0, h => by simp [okD] at h
  | .fl .., _, h => by simp [okD] at h
  | .dk .., _, h => by simp [okD] at h
  | .obj .., _, h => by simp [okD] at h
  | .hnd .., _, h => by simp [okD] at h
theorem oks_shape : ∀ (ds : List D) (n : Nat), okDs ds n = true → PyData.canLayAll0 (toPs ds) = true ∧ PyData.depthAll (toPs ds) ≤ n
  | [], _, _ => by simp [toPs, PyData.canLayAll0, PyData.depthAll]
  | d :: ds, n, h => by
    simp only [okDs, Bool.and_eq_true] at h
    obtain ⟨a, b⟩ := ok_shape d n h.1
    obtain ⟨c, e⟩ := oks_shape ds n h.2
    simp only [toPs, PyData.canLayAll0, PyData.depthAll]
    exact ⟨by rw [a, c]; rfl, by omega⟩
end
mutual
theorem beq_eqv : ∀ (d e : D) (n m : Nat), okD d n = true → okD e m = true → PyData.eqv (toP d) (toP e) = beq d e
  | .non, e, _, m, _, h => by cases e <;> first | simp [okD] at h | (cases m <;> simp [okD] at h) | skip
                              all_goals simp [toP, PyData.eqv, beq]
  | .bl b, e, _, m, _, h => by cases e <;> first | simp [okD] at h | (cases m <;> simp [okD] at h) | skip
                               all_goals simp [toP, PyData.eqv, beq]
  | .int i, e, _, m, _, h => by cases e <;> first | simp [okD] at h | (cases m <;> simp [okD] at h) | skip
                                all_goals simp [toP, PyData.eqv, beq]
  | .str s, e, _, m, _, h => by cases e <;> first | simp [okD] at h | (cases m <;> simp [okD] at h) | skip
                                all_goals simp [toP, PyData.eqv, beq, str_beq]
  | .lst ds, .lst es, n + 1, m + 1, h, h' => by
    simp only [toP, PyData.eqv, beq]
    exact beqs_eqv ds es n m (by simpa [okD] using h) (by simpa [okD] using h')
  | .tup ds, .tup es, n + 1, m + 1, h, h' => by
    simp only [toP, PyData.eqv, beq]
    exact beqs_eqv ds es n m (by simpa [okD] using h) (by simpa [okD] using h')
  | .lst ds, .lst es, 0, _, h, _ => by simp [okD] at h
  | .lst ds, .lst es, _, 0, _, h => by simp [okD] at h
  | .tup ds, .tup es, 0, _, h, _ => by simp [okD] at h
  | .tup ds, .tup es, _, 0, _, h => by simp [okD] at h
  | .lst ds, .non, _, _, _, _ => by simp [toP, PyData.eqv, beq]
  | .lst ds, .bl _, _, _, _, _ => by simp [toP, PyData.eqv, beq]
  | .lst ds, .int _, _, _, _, _ => by simp [toP, PyData.eqv, beq]
  | .lst ds, .str _, _, _, _, _ => by simp [toP, PyData.eqv, beq]
  | .lst ds, .tup _, _, _, _, _ => by simp [toP, PyData.eqv, beq]
  | .tup ds, .non, _, _, _, _ => by simp [toP, PyData.eqv, beq]
  | .tup ds, .bl _, _, _, _, _ => by simp [toP, PyData.eqv, beq]
  | .tup ds, .int _, _, _, _, _ => by simp [toP, PyData.eqv, beq]
  | .tup ds, .str _, _, _, _, _ => by simp [toP, PyData.eqv, beq]
  | .tup ds, .lst _, _, _, _, _ => by simp [toP, PyData.eqv, beq]
  | _, .fl .., _, _, _, h => by simp [okD] at h
  | .fl .., _, _, _, h, _ => by simp [okD] at h
  | _, .dk .., _, _, _, h => by simp [okD] at h
  | _, .obj .., _, _, _, h => by simp [okD] at h
  | _, .hnd .., _, _, _, h => by simp [okD] at h
  | .dk .., _, _, _, h, _ => by simp [okD] at h
  | .obj .., _, _, _, h, _ => by simp [okD] at h
  | .hnd .., _, _, _, h, _ => by simp [okD] at h
theorem beqs_eqv : ∀ (ds es : List D) (n m : Nat), okDs ds n = true → okDs es m = true → PyData.eqvAll (toPs ds) (toPs es) = beqs ds es
  | [], [], _, _, _, _ => by simp [toPs, PyData.eqvAll, beqs]
  | [], _ :: _, _, _, _, _ => by simp [toPs, PyData.eqvAll, beqs]
  | _ :: _, [], _, _, _, _ => by simp [toPs, PyData.eqvAll, beqs]
  | d :: ds, e :: es, n, m, h, h' => by
    simp only [okDs, Bool.and_eq_true] at h h'
    simp only [toPs, PyData.eqvAll, beqs]
    rw [beq_eqv d e n m h.1 h'.1, beqs_eqv ds es n m h.2 h'.2]
end
theorem shaped_of {d : D} (h : okD d 60 = true) : SeqAt.shaped (toP d) = true := by
  obtain ⟨a, b⟩ := ok_shape d 60 h
  show ((toP d).canLay0 && decide ((toP d).depth ≤ 64)) = true
  rw [a, decide_eq_true (by omega)]; rfl
end
end Ev
namespace Ev
open PySem PySem.Spec PyProof.Rows L2
theorem smallI_iff {i : Int} (h : smallI i = true) : -(2 ^ 64) < i ∧ i < 2 ^ 64 := by
  unfold smallI at h
  simp only [Bool.and_eq_true, decide_eq_true_eq] at h
  exact ⟨by have := h.1; omega, by have := h.2; omega⟩
section
variable {G : GC} {w : Wd} {H : Hp} {st : HSt}
theorem rep_int {i : Int} {v : V} (h : Rep G w H (.int i) v) : v = .int i := by cases h; rfl
theorem rep_bl {i : Bool} {v : V} (h : Rep G w H (.bl i) v) : v = .bl i := by cases h; rfl
theorem rep_str {i : List Nat} {v : V} (h : Rep G w H (.str i) v) : v = .str ⟨i.toArray⟩ := by cases h; rfl
theorem rep_non {v : V} (h : Rep G w H .non v) : v = .non := by cases h; rfl
/-- what a flat value's V is -/
def vF : D → V
  | .non => .non
  | .bl b => .bl b
  | .int i => .int i
  | .str s => .str ⟨s.toArray⟩
  | _ => .non
theorem rep_flat {d : D} {v : V} (f : flatD d = true) (r : Rep G w H d v) : v = vF d := by
  cases r <;> first | rfl | (simp [flatD] at f)
theorem vF_flat {d : D} (f : flatD d = true) : L2.flatV (vF d) = true := by
  cases d <;> first | rfl | (simp [flatD] at f)
theorem vF_rep {d : D} (f : flatD d = true) : Rep G w H d (vF d) := by
  cases d <;> first | (simp [flatD] at f; done) | constructor
theorem eqV_beq {a b : D} (fa : flatD a = true) (fb : flatD b = true) : L2.eqV (vF a) (vF b) = beq a b := by
  cases a <;> first | (simp [flatD] at fa; done) | skip
  all_goals (cases b <;> first | (simp [flatD] at fb; done) | skip)
  all_goals simp [vF, L2.eqV, beq, str_beq]
theorem dec_beq {a b : D} (h : scD a b = true) : L2.scal (vF a) (vF b) = true ∧ decide (vF a = vF b) = beq a b := by
  cases a <;> first | (simp [scD, flatD] at h; done) | skip
  all_goals (cases b <;> first | (simp [scD, flatD] at h; done) | skip)
  all_goals
    refine ⟨rfl, ?_⟩
    simp only [vF, beq]
    rw [Bool.eq_iff_iff]
    simp [eqN_iff]
theorem sc_flat {a b : D} (h : scD a b = true) : flatD a = true ∧ flatD b = true := by
  cases a <;> cases b <;> simp_all [scD, flatD]
theorem inV_any {x : D} (fx : flatD x = true) : ∀ {ds : List D} {vs : List V}, RepAll G w H ds vs → ds.all flatD = true → vs.all L2.flatV = true ∧ L2.inV (vF x) vs = anyEq x ds
  | _, _, .nil, _ => ⟨rfl, rfl⟩
  | d :: ds, v :: vs, .cons h r, f => by
    rw [List.all_cons, Bool.and_eq_true] at f
    obtain ⟨a, b⟩ := inV_any fx r f.2
    have e := rep_flat f.1 h
    subst e
    refine ⟨by rw [List.all_cons, a, vF_flat f.1]; rfl, ?_⟩
    unfold L2.inV at b ⊢
    rw [List.any_cons, b, eqV_beq f.1 fx]
    rfl
theorem any_eqv {x : D} {m : Nat} (hx : okD x m = true) : ∀ {ds : List D} {n : Nat}, okDs ds n = true → ((toPs ds).any fun z => PyData.eqv z (toP x)) = anyEq x ds
  | [], _, _ => rfl
  | d :: ds, n, h => by
    simp only [okDs, Bool.and_eq_true] at h
    simp only [toPs, List.any_cons, anyEq]
    rw [beq_eqv d x n m h.1 hx, any_eqv hx h.2]
theorem memN_iff (c : Nat) : ∀ s : List Nat, memN c s = decide (c ∈ s)
  | [] => by simp [memN]
  | a :: s => by
    rw [memN, memN_iff c s, Bool.eq_iff_iff]
    simp
theorem ltN_iff : ∀ s t : List Nat, ltN s t = decide (s < t)
  | [], [] => by simp [ltN]
  | [], b :: t => by simp [ltN]
  | a :: s, [] => by simp [ltN]
  | a :: s, b :: t => by
    rw [ltN, ltN_iff s t, Bool.eq_iff_iff]
    simp [List.cons_lt_cons_iff, Nat.blt_eq]
theorem kyK_inj {a b : KY} (h : kyK a = kyK b) : a = b := by
  cases a <;> cases b <;> simp_all [kyK]
theorem keyD_kV {d : D} {k : KY} {v : V} (h : keyD d = some k) (r : Rep G w H d v) : v = kV (kyK k) := by
  cases r <;> simp [keyD] at h <;> subst h <;> rfl
theorem look_valV {ks : List KY} {vs : List D} {ws : List V} {k : KY} (hl : ks.length = ws.length) (r : RepAll G w H vs ws) :
    match lookK ks vs k with
    | some d => ∃ v, valV ((ks.map kyK).zip ws) (kyK k) = some v ∧ Rep G w H d v
    | none => valV ((ks.map kyK).zip ws) (kyK k) = none := by
  induction ks generalizing vs ws with
  | nil =>
    simp only [lookK]
    rfl
  | cons a ks ih =>
    cases r with
    | nil => simp at hl
    | @cons d ds v vs h r =>
      simp only [lookK]
      by_cases e : eqK a k = true
      · rw [if_pos e]
        have e' := eqK_iff.mp e
        subst e'
        exact ⟨v, valV_pos rfl, h⟩
      · rw [if_neg e]
        have n : ¬ kyK a = kyK k := fun z => e (eqK_iff.mpr (kyK_inj z))
        have q := ih (by simpa using hl) r
        have ev : valV ((List.map kyK (a :: ks)).zip (v :: vs)) (kyK k) = valV ((ks.map kyK).zip vs) (kyK k) := valV_neg (p := (kyK a, v)) n
        rw [ev]
        exact q
theorem has_look : ∀ {ks : List KY} {vs : List D} {k : KY}, ks.length = vs.length → hasK ks k = (lookK ks vs k).isSome
  | [], [], _, _ => rfl
  | a :: ks, d :: ds, k, h => by
    simp only [hasK, lookK]
    by_cases e : eqK a k = true
    · rw [if_pos e, e]; rfl
    · rw [if_neg e, (Bool.not_eq_true _ ▸ e : eqK a k = false), Bool.false_or]
      exact has_look (by simpa using h)
/-- a dict, where it stands -/
theorem Rep.dictAt {d : D} {v : V} {ks : List KY} {vs : List D} (wr : WRel G w H st) (r : Rep G w H d v) (h : dictOf st d = some (ks, vs)) :
    ∃ a ws, v = .ref a ∧ H a = some (.dK ((ks.map kyK).zip ws)) ∧ ks.length = ws.length ∧ RepAll G w H vs ws := by
  cases r with
  | dk f hh e q => cases h; exact ⟨_, _, rfl, hh, e, q⟩
  | @hnd n a hn =>
    simp only [dictOf] at h
    split at h
    · rename_i ks' vs' e
      cases h
      obtain ⟨a', e1, ws, e2, e3, q⟩ := wr.at_ n _ e
      rw [hn] at e1; cases e1
      exact ⟨_, ws, rfl, e2, e3, q⟩
    · cases h
  | _ => cases h
end
theorem shaped_list {ds : List D} {n : Nat} (h : okDs ds n = true) (hn : n ≤ 62) : SeqAt.shaped (.list (toPs ds)) = true := by
  obtain ⟨c1, c2⟩ := oks_shape ds n h
  show ((PyData.list (toPs ds)).canLay0 && decide ((PyData.list (toPs ds)).depth ≤ 64)) = true
  rw [Bool.and_eq_true]
  exact ⟨by simpa [PyData.canLay0] using c1, decide_eq_true (by simp only [PyData.depth]; omega)⟩
def isNon : D → Bool
  | .non => true
  | _ => false
section
variable {X : Cx} {g : GN}
theorem o_sub : OpR X (binaryOp .Sub) (rP2 (Gx X g) fun _ => subD) := by
  intro pins s σ H x y v u Q I rx ry ⟨w, st, d1, d2, d, wr, r1, r2, e, p⟩
  cases d1 with
  | int i =>
    cases d2 with
    | int j =>
      cases e
      cases rep_int r1; cases rep_int r2
      exact op_sub pins s σ H _ _ v u Q I rx ry ⟨i, j, rfl, rfl, p.here (.int _)⟩
    | _ => cases e
  | _ => cases e
theorem o_add : OpR X (binaryOp .Add) (rP2 (Gx X g) fun _ => addD) := by
  intro pins s σ H x y v u Q I rx ry ⟨w, st, d1, d2, d, wr, r1, r2, e, p⟩
  cases d1 with
  | int i =>
    cases d2 with
    | int j =>
      cases e
      cases rep_int r1; cases rep_int r2
      exact op_add pins s σ H _ _ v u Q I rx ry ⟨i, j, rfl, rfl, p.here (.int _)⟩
    | _ => cases e
  | str i =>
    cases d2 with
    | str j =>
      simp only [addD] at e
      split at e
      · rename_i hl
        cases e
        cases rep_str r1; cases rep_str r2
        refine op_add_str pins s σ H _ _ v u Q I rx ry ⟨_, _, rfl, rfl, ?_, ?_⟩
        · have : sizeLine = 16777216 := sizeLine_eq
          unfold line at hl
          simp only [Str.length, List.size_toArray]
          omega
        · have q := p.here (.str (i ++ j))
          have e2 : ((⟨i.toArray⟩ : Str) ++ (⟨j.toArray⟩ : Str)) = ⟨(i ++ j).toArray⟩ := by
            show (⟨i.toArray ++ j.toArray⟩ : Str) = _
            simp
          rw [e2]; exact q
      · cases e
    | _ => cases e
  | lst xs =>
    cases d2 with
    | lst ys =>
      simp only [addD] at e
      split at e
      · rename_i hl
        cases e
        cases r1 with
        | lst f1 l1 a1 =>
          cases r2 with
          | lst f2 l2 a2 =>
            refine op_cat pins s σ H _ _ v u Q I rx ry ⟨_, _, _, _, rfl, rfl, l1, l2, ?_, p.lst wr (a1.append a2)⟩
            rw [← a1.length, ← a2.length, sizeLine_eq]
            exact hl
      · cases e
    | _ => cases e
  | tup xs =>
    cases d2 with
    | tup ys =>
      simp only [addD] at e
      split at e
      · rename_i hl
        cases e
        cases r1 with
        | tup l1 a1 =>
          cases r2 with
          | tup l2 a2 =>
            refine op_catF pins s σ H _ _ v u Q I rx ry ⟨_, _, _, _, rfl, rfl, l1.sq, l2.sq, ?_, fun z => ?_, fun _ z => ?_, fun _ _ => p.tup wr (a1.append a2)⟩
            · rw [← a1.length, ← a2.length, sizeLine_eq]
              exact hl
            · subst z; cases a1; exact p.here (.tup l2 a2)
            · subst z; cases a2; exact p.here (by simpa using Rep.tup l1 a1)
      · cases e
    | _ => cases e
  | _ => cases e
theorem o_mul : OpR X (binaryOp .Mult) (rP2 (Gx X g) fun _ => mulD) := by
  intro pins s σ H x y v u Q I rx ry ⟨w, st, d1, d2, d, wr, r1, r2, e, p⟩
  cases d1 with
  | int i =>
    cases d2 with
    | int j =>
      simp only [mulD] at e
      split at e
      · rename_i hm
        cases e
        cases rep_int r1; cases rep_int r2
        unfold mulOk at hm
        simp only [Bool.or_eq_true] at hm
        rcases hm with (hm | hm) | hm
        · exact op_mul pins s σ H _ _ v u Q I rx ry ⟨i, j, rfl, rfl, .inl (smallI_iff hm), p.here (.int _)⟩
        · exact op_mul pins s σ H _ _ v u Q I rx ry ⟨i, j, rfl, rfl, .inr (smallI_iff hm), p.here (.int _)⟩
        · exact op_mulW pins s σ H _ _ v u Q I rx ry ⟨i, j, rfl, rfl, (by have z := of_decide_eq_true hm; exact z), p.here (.int _)⟩
      · cases e
    | _ => cases e
  | lst xs =>
    cases d2 with
    | int k =>
      simp only [mulD] at e
      split at e
      · rename_i hm
        cases e
        simp only [Bool.and_eq_true, decide_eq_true_eq] at hm
        cases rep_int r2
        cases r1 with
        | lst f1 l1 a1 =>
          refine op_rep pins s σ H _ _ v u Q I rx ry ⟨_, _, _, rfl, rfl, l1, by omega, by omega, ?_, fun q hq => ?_⟩
          · rw [← a1.length, sizeLine_eq]; exact hm.2
          · refine p.lst wr ?_ q hq
            show RepAll _ _ _ (repL k.toNat xs) _
            unfold repL
            induction k.toNat with
            | zero => exact .nil
            | succ n ih => rw [List.replicate_succ, List.replicate_succ, List.flatten_cons, List.flatten_cons]; exact a1.append ih
      · cases e
    | _ => cases e
  | tup xs =>
    cases d2 with
    | int k =>
      simp only [mulD] at e
      split at e
      · rename_i hm
        cases e
        simp only [Bool.and_eq_true, decide_eq_true_eq] at hm
        cases rep_int r2
        cases r1 with
        | tup l1 a1 =>
          refine op_repF pins s σ H _ _ v u Q I rx ry ⟨_, _, _, rfl, rfl, l1.sq, ?_, by omega, by omega, ?_, fun q o hq ho => ?_⟩
          · intro z; subst z; cases a1; simp at hm
          · rw [← a1.length]; exact hm.1.2
          · refine p.tup wr ?_ q o hq ho
            show RepAll _ _ _ (repL k.toNat xs) _
            unfold repL
            induction k.toNat with
            | zero => exact .nil
            | succ n ih => rw [List.replicate_succ, List.replicate_succ, List.flatten_cons, List.flatten_cons]; exact a1.append ih
      · cases e
    | _ => cases e
  | _ => cases e
theorem o_fdiv : OpR X (binaryOp .FloorDiv) (rP2 (Gx X g) fun _ => fdivD) := by
  intro pins s σ H x y v u Q I rx ry ⟨w, st, d1, d2, d, wr, r1, r2, e, p⟩
  cases d1 with
  | int i =>
    cases d2 with
    | int j =>
      simp only [fdivD] at e
      split at e
      · rename_i hm
        cases e
        simp only [Bool.and_eq_true, decide_eq_true_eq] at hm
        cases rep_int r1; cases rep_int r2
        exact op_fdivW pins s σ H _ _ v u Q I rx ry ⟨i, j, rfl, rfl, hm, p.here (.int _)⟩
      · cases e
    | _ => cases e
  | _ => cases e
theorem o_mod : OpR X (binaryOp .Mod) (rP2 (Gx X g) fun _ => modD) := by
  intro pins s σ H x y v u Q I rx ry ⟨w, st, d1, d2, d, wr, r1, r2, e, p⟩
  cases d1 with
  | int i =>
    cases d2 with
    | int j =>
      simp only [modD] at e
      split at e
      · rename_i hm
        cases e
        cases rep_int r1; cases rep_int r2
        exact op_mod pins s σ H _ _ v u Q I rx ry ⟨i, j, rfl, rfl, of_decide_eq_true hm, p.here (.int _)⟩
      · cases e
    | _ => cases e
  | _ => cases e
theorem o_pow : OpR X (binaryOp .Pow) (rP2 (Gx X g) fun _ => powD) := by
  intro pins s σ H x y v u Q I rx ry ⟨w, st, d1, d2, d, wr, r1, r2, e, p⟩
  cases d1 with
  | int i =>
    cases d2 with
    | int j =>
      simp only [powD] at e
      split at e
      · rename_i hm
        cases e
        simp only [Bool.and_eq_true, decide_eq_true_eq] at hm
        cases rep_int r1; cases rep_int r2
        obtain ⟨a, b⟩ := smallI_iff hm.2
        exact op_pow pins s σ H _ _ v u Q I rx ry ⟨i, j, rfl, rfl, ⟨hm.1.1, by omega, by omega⟩, p.here (.int _)⟩
      · cases e
    | _ => cases e
  | _ => cases e
theorem eqD_path {a b : D} {r : Bool} (h : eqD a b = some r) : (scD a b = true ∧ r = beq a b) ∨ (okD a 60 = true ∧ okD b 60 = true ∧ r = beq a b) ∨ (∃ ds, a = .fl ds ∧ b = .lst [] ∧ okDs ds 50 = true ∧ r = ds.isEmpty) := by
  unfold eqD at h
  split at h
  · split at h
    · rename_i ds q
      cases h
      exact .inr (.inr ⟨_, rfl, rfl, q, rfl⟩)
    · cases h
  · split at h
    · rename_i q
      cases h
      exact .inl ⟨q, rfl⟩
    · split at h
      · rename_i q
        cases h
        simp only [Bool.and_eq_true] at q
        exact .inr (.inl ⟨q.1, q.2, rfl⟩)
      · cases h
theorem o_eq (hu : X.A.units + 64 < cLine) : OpR X (compareOp .Eq) (rP2 (Gx X g) fun _ a b => bD (eqD a b)) := by
  intro pins s σ H x y v u Q I rx ry ⟨w, st, d1, d2, d, wr, r1, r2, e, p⟩
  dsimp only [bD] at e
  cases q : eqD d1 d2 with
  | none => rw [q] at e; cases e
  | some r =>
    rw [q] at e; cases e
    rcases eqD_path q with ⟨h1, rfl⟩ | ⟨h1, h2, rfl⟩ | ⟨ds, rfl, rfl, h1, rfl⟩
    · obtain ⟨f1, f2⟩ := sc_flat h1
      cases rep_flat f1 r1; cases rep_flat f2 r2
      obtain ⟨a, b⟩ := dec_beq h1
      exact op_eq pins s σ H _ _ v u Q I rx ry ⟨a, by rw [b]; exact p.here (.bl _)⟩
    · exact op_eqD hu pins s σ H _ _ v u Q I rx ry ⟨_, _, dp_of h1 r1, dp_of h2 r2, shaped_of h1, shaped_of h2, by rw [beq_eqv _ _ _ _ h1 h2]; exact p.here (.bl _)⟩
    · cases r1 with
      | fl l a =>
        cases r2 with
        | lst f2 l2 a2 =>
          cases a2
          refine op_eqD hu pins s σ H _ _ v u Q I rx ry ⟨.list (toPs ds), .list [], .lst l.sq (dps_of h1 a), .lst (SqL.of l2) .nil, shaped_list h1 (by decide), rfl, ?_⟩
          · have ee : PyData.eqv (.list (toPs ds)) (.list []) = ds.isEmpty := by
              cases ds <;> simp [toPs, PyData.eqv, PyData.eqvAll]
            rw [ee]
            exact p.here (.bl _)
theorem o_ne (hu : X.A.units + 64 < cLine) : OpR X (compareOp .NotEq) (rP2 (Gx X g) fun _ a b => nD (eqD a b)) := by
  intro pins s σ H x y v u Q I rx ry ⟨w, st, d1, d2, d, wr, r1, r2, e, p⟩
  dsimp only [nD] at e
  cases q : eqD d1 d2 with
  | none => rw [q] at e; cases e
  | some r =>
    rw [q] at e; cases e
    rcases eqD_path q with ⟨h1, rfl⟩ | ⟨h1, h2, rfl⟩ | ⟨ds, rfl, rfl, h1, rfl⟩
    · obtain ⟨f1, f2⟩ := sc_flat h1
      cases rep_flat f1 r1; cases rep_flat f2 r2
      obtain ⟨a, b⟩ := dec_beq h1
      exact op_ne pins s σ H _ _ v u Q I rx ry ⟨a, by rw [b]; exact p.here (.bl _)⟩
    · exact op_neD hu pins s σ H _ _ v u Q I rx ry ⟨_, _, dp_of h1 r1, dp_of h2 r2, shaped_of h1, shaped_of h2, by rw [beq_eqv _ _ _ _ h1 h2]; exact p.here (.bl _)⟩
    · cases r1 with
      | fl l a =>
        cases r2 with
        | lst f2 l2 a2 =>
          cases a2
          refine op_neD hu pins s σ H _ _ v u Q I rx ry ⟨.list (toPs ds), .list [], .lst l.sq (dps_of h1 a), .lst (SqL.of l2) .nil, shaped_list h1 (by decide), rfl, ?_⟩
          · have ee : PyData.eqv (.list (toPs ds)) (.list []) = ds.isEmpty := by
              cases ds <;> simp [toPs, PyData.eqv, PyData.eqvAll]
            rw [ee]
            exact p.here (.bl _)
theorem o_lt : OpR X (compareOp .Lt) (rP2 (Gx X g) fun _ a b => bD (ltD a b)) := by
  intro pins s σ H x y v u Q I rx ry ⟨w, st, d1, d2, d, wr, r1, r2, e, p⟩
  cases d1 with
  | int i =>
    cases d2 with
    | int j =>
      cases e
      cases rep_int r1; cases rep_int r2
      exact op_lt pins s σ H _ _ v u Q I rx ry ⟨i, j, rfl, rfl, p.here (.bl _)⟩
    | _ => cases e
  | str i =>
    cases d2 with
    | str j =>
      cases e
      cases rep_str r1; cases rep_str r2
      have q := p.here (.bl _)
      rw [ltN_iff] at q
      exact op_lt_str pins s σ H _ _ v u Q I rx ry ⟨_, _, rfl, rfl, q⟩
    | _ => cases e
  | _ => cases e
theorem o_gt : OpR X (compareOp .Gt) (rP2 (Gx X g) fun _ a b => bD (ltD b a)) := by
  intro pins s σ H x y v u Q I rx ry ⟨w, st, d1, d2, d, wr, r1, r2, e, p⟩
  cases d2 with
  | int i =>
    cases d1 with
    | int j =>
      cases e
      cases rep_int r1; cases rep_int r2
      exact op_gt pins s σ H _ _ v u Q I rx ry ⟨_, _, rfl, rfl, p.here (.bl _)⟩
    | _ => cases e
  | str i =>
    cases d1 with
    | str j =>
      cases e
      cases rep_str r1; cases rep_str r2
      have q := p.here (.bl _)
      rw [ltN_iff] at q
      exact op_gt_str pins s σ H _ _ v u Q I rx ry ⟨_, _, rfl, rfl, q⟩
    | _ => cases e
  | _ => cases e
theorem o_le : OpR X (compareOp .LtE) (rP2 (Gx X g) fun _ a b => bD (leD a b)) := by
  intro pins s σ H x y v u Q I rx ry ⟨w, st, d1, d2, d, wr, r1, r2, e, p⟩
  cases d1 with
  | int i =>
    cases d2 with
    | int j =>
      cases e
      cases rep_int r1; cases rep_int r2
      exact op_le pins s σ H _ _ v u Q I rx ry ⟨i, j, rfl, rfl, p.here (.bl _)⟩
    | _ => cases e
  | str i =>
    cases d2 with
    | str j =>
      cases e
    | _ => cases e
  | _ => cases e
theorem o_ge : OpR X (compareOp .GtE) (rP2 (Gx X g) fun _ a b => bD (leD b a)) := by
  intro pins s σ H x y v u Q I rx ry ⟨w, st, d1, d2, d, wr, r1, r2, e, p⟩
  cases d2 with
  | int i =>
    cases d1 with
    | int j =>
      cases e
      cases rep_int r1; cases rep_int r2
      exact op_ge pins s σ H _ _ v u Q I rx ry ⟨_, _, rfl, rfl, p.here (.bl _)⟩
    | _ => cases e
  | _ => cases e
theorem rep_isN {G : GC} {w : Wd} {H : Hp} {d : D} {v : V} (r : Rep G w H d v) : decide (v = .non) = isNon d := by
  cases r <;> simp [isNon]
theorem o_is : OpR X (compareOp .Is) (rP2 (Gx X g) fun _ a b => bD (isD a b)) := by
  intro pins s σ H x y v u Q I rx ry ⟨w, st, d1, d2, d, wr, r1, r2, e, p⟩
  cases d2 with
  | non =>
    cases rep_non r2
    have h : d = .bl (isNon d1) := by cases d1 <;> cases e <;> rfl
    subst h
    exact op_isN pins s σ H _ _ v u Q I rx ry ⟨rfl, by rw [rep_isN r1]; exact p.here (.bl _)⟩
  | bl b =>
    cases d1 with
    | bl a =>
      cases e
      cases rep_bl r1; cases rep_bl r2
      refine op_isBl pins s σ H _ _ v u Q I rx ry ⟨a, b, rfl, rfl, ?_⟩
      have q := p.here (.bl _)
      rw [show decide (a = b) = (a == b) by rw [Bool.eq_iff_iff]; simp]
      exact q
    | _ => cases e
  | _ => cases d1 <;> cases e
theorem o_isnot : OpR X (compareOp .IsNot) (rP2 (Gx X g) fun _ a b => nD (isD a b)) := by
  intro pins s σ H x y v u Q I rx ry ⟨w, st, d1, d2, d, wr, r1, r2, e, p⟩
  cases d2 with
  | non =>
    cases rep_non r2
    have h : d = .bl (!(isNon d1)) := by cases d1 <;> cases e <;> rfl
    subst h
    exact op_notN pins s σ H _ _ v u Q I rx ry ⟨rfl, by rw [rep_isN r1]; exact p.here (.bl _)⟩
  | bl b =>
    cases d1 with
    | bl a =>
      cases e
      cases rep_bl r1; cases rep_bl r2
      refine op_notBl pins s σ H _ _ v u Q I rx ry ⟨a, b, rfl, rfl, ?_⟩
      have q := p.here (.bl _)
      rw [show decide (a = b) = (a == b) by rw [Bool.eq_iff_iff]; simp]
      exact q
    | _ => cases e
  | _ => cases d1 <;> cases e
/-! ### in -/
theorem inD_dict {st : HSt} {a b : D} {r : Bool} {ks : List KY} {vs : List D} (hd : dictOf st b = some (ks, vs)) (h : inD st a b = some r) : ∃ k, keyD a = some k ∧ r = hasK ks k := by
  unfold inD at h
  rw [hd] at h
  simp only [Option.map_eq_some_iff] at h
  obtain ⟨k, e, q⟩ := h
  exact ⟨k, e, q.symm⟩
theorem inD_str {st : HSt} {a : D} {s : List Nat} {r : Bool} (h : inD st a (.str s) = some r) : ∃ c, a = .str [c] ∧ r = memN c s := by
  simp only [inD, dictOf] at h
  split at h
  · rename_i c
    cases h
    exact ⟨c, rfl, rfl⟩
  · cases h
theorem inD_seq {st : HSt} {a b : D} {r : Bool} (hd : dictOf st b = none) (hs : ∀ s, b ≠ .str s) (h : inD st a b = some r) : ∃ ds, seqs st b = some ds ∧ r = anyEq a ds ∧
    ((flatD a = true ∧ ds.all flatD = true) ∨ (okD a 60 = true ∧ okDs ds 60 = true)) := by
  unfold inD at h
  rw [hd] at h
  cases b with
  | str s => exact absurd rfl (hs s)
  | _ =>
    simp only at h
    split at h
    · rename_i ds e
      split at h
      · rename_i q
        cases h
        simp only [Bool.and_eq_true] at q
        exact ⟨ds, e, rfl, .inl q⟩
      · split at h
        · rename_i q
          cases h
          simp only [Bool.and_eq_true] at q
          exact ⟨ds, e, rfl, .inr q⟩
        · cases h
    · cases h
/-- what both tests ask -/
theorem in_core (neg : Bool) (hu : X.A.units + 65 < cLine) {pins s σ H x y v u Q} (I : L2.Inv X pins σ H s) (rx : RelV x v) (ry : RelV y u) {w : Wd} {st : HSt} {d1 d2 : D} {r : Bool} (wr : WRel (Gx X g) w H st) (r1 : Rep (Gx X g) w H d1 x) (r2 : Rep (Gx X g) w H d2 y)
    (e : inD st d1 d2 = some r) (p : Q (.bl (if neg then !r else r)) H) : wpAny (model X.prog X.w) X.A (compareOp (if neg then .NotIn else .In) v u) (EP X pins σ Q) X.xe s := by
  cases hd : dictOf st d2 with
  | some kv =>
    obtain ⟨ks, vs⟩ := kv
    obtain ⟨k, ek, er⟩ := inD_dict hd e
    obtain ⟨a, ws, ey, hh, hl, q⟩ := r2.dictAt wr hd
    subst ey
    obtain rfl : u = Value.ref a := ry
    have ex := keyD_kV ek r1
    subst ex
    have lv := look_valV (k := k) hl q
    have hr : r = (valV ((ks.map kyK).zip ws) (kyK k)).isSome := by
      rw [er, has_look (vs := vs) (by rw [hl, q.length])]
      cases z : lookK ks vs k with
      | none => rw [z] at lv; rw [lv]; rfl
      | some d => rw [z] at lv; obtain ⟨v, e1, _⟩ := lv; rw [e1]; rfl
    rw [hr] at p
    cases neg with
    | false => exact d_in (by omega) I (DGet.k hh) rx fun s' I' => ⟨.bl _, H, I', rfl, p⟩
    | true => exact d_notIn (by omega) I (DGet.k hh) rx fun s' I' => ⟨.bl _, H, I', rfl, p⟩
  | none =>
    by_cases hs : ∃ s, d2 = .str s
    · obtain ⟨t, rfl⟩ := hs
      obtain ⟨c, rfl, rfl⟩ := inD_str e
      cases rep_str r1; cases rep_str r2
      rw [memN_iff] at p
      cases neg with
      | false => exact op_in_sign pins s σ H _ _ v u Q I rx ry ⟨c, _, rfl, rfl, p⟩
      | true => exact op_notIn_sign pins s σ H _ _ v u Q I rx ry ⟨c, _, rfl, rfl, p⟩
    · obtain ⟨ds, es, er, hc⟩ := inD_seq hd (fun s e => hs ⟨s, e⟩) e
      subst er
      rcases hc with ⟨f1, f2⟩ | ⟨f1, f2⟩
      · obtain ⟨a, vs, rfl, hq, ra⟩ := r2.sq wr es
        cases rep_flat f1 r1
        obtain ⟨i1, i2⟩ := inV_any f1 ra f2
        rw [← i2] at p
        cases neg with
        | false => exact op_in_seq pins s σ H _ _ v u Q I rx ry ⟨a, vs, rfl, hq, vF_flat f1, i1, p⟩
        | true => exact op_notIn_seq pins s σ H _ _ v u Q I rx ry ⟨a, vs, rfl, hq, vF_flat f1, i1, p⟩
      · obtain ⟨c1, c2⟩ := oks_shape ds 60 f2
        have dx := dp_of f1 r1
        by_cases ht : ∃ es, d2 = .tup es
        · obtain ⟨es', rfl⟩ := ht
          cases es
          cases r2 with
          | tup l a =>
            obtain ⟨as, q1⟩ := Dp.reads I _ _ _ dx rx
            obtain ⟨bs, q2⟩ := Dp.reads I (.tuple (toPs ds)) _ _ (.tup l.sq (dps_of f2 a)) ry
            have room := PyProof.Rows.room_in_shaped (xs := toPs ds) (shaped_of f1) hu
            rw [← any_eqv f1 f2] at p
            cases neg with
            | false => exact SeqAt.in_tuple_reads q2 q1 c1 (ok_shape _ _ f1).1 room ⟨.bl _, H, I, rfl, p⟩
            | true => exact SeqAt.notIn_tuple_reads q2 q1 c1 (ok_shape _ _ f1).1 room ⟨.bl _, H, I, rfl, p⟩
        · obtain ⟨a, vs, rfl, hq, ra⟩ := r2.sqL wr es (fun z e => ht ⟨z, e⟩)
          have sl := shaped_list f2 (by decide)
          rw [← any_eqv f1 f2] at p
          cases neg with
          | false => exact op_inD hu pins s σ H _ _ v u Q I rx ry ⟨_, _, dx, .lst hq (dps_of f2 ra), shaped_of f1, sl, p⟩
          | true => exact op_notInD hu pins s σ H _ _ v u Q I rx ry ⟨_, _, dx, .lst hq (dps_of f2 ra), shaped_of f1, sl, p⟩
theorem o_in (hu : X.A.units + 65 < cLine) : OpR X (compareOp .In) (rP2 (Gx X g) fun st a b => bD (inD st a b)) := by
  intro pins s σ H x y v u Q I rx ry ⟨w, st, d1, d2, d, wr, r1, r2, e, p⟩
  dsimp only [bD] at e
  cases q : inD st d1 d2 with
  | none => rw [q] at e; cases e
  | some r =>
    rw [q] at e; cases e
    exact in_core false hu I rx ry wr r1 r2 q (p.here (.bl _))
theorem o_notin (hu : X.A.units + 65 < cLine) : OpR X (compareOp .NotIn) (rP2 (Gx X g) fun st a b => nD (inD st a b)) := by
  intro pins s σ H x y v u Q I rx ry ⟨w, st, d1, d2, d, wr, r1, r2, e, p⟩
  dsimp only [nD] at e
  cases q : inD st d1 d2 with
  | none => rw [q] at e; cases e
  | some r =>
    rw [q] at e; cases e
    exact in_core true hu I rx ry wr r1 r2 q (p.here (.bl _))
end
end Ev
namespace Ev
open PySem PySem.Spec PyProof.Rows L2
section
variable {X : Cx} {g : GN}
theorem idxN_at {n : Nat} {i : Int} {j : Nat} (h : idxN n i = some j) : L2.ixN n i = some j := by
  unfold idxN at h
  unfold L2.ixN
  exact h
theorem idxD_dict {st : HSt} {a b d : D} {ks : List KY} {vs : List D} (hd : dictOf st a = some (ks, vs)) (h : idxD st a b = some d) : ∃ k, keyD b = some k ∧ lookK ks vs k = some d := by
  unfold idxD at h
  rw [hd] at h
  simp only [Option.bind_eq_some_iff] at h
  exact h
theorem idxD_str {st : HSt} {s : List Nat} {b d : D} (h : idxD st (.str s) b = some d) : ∃ i j c, b = .int i ∧ s.length ≤ line ∧ idxN s.length i = some j ∧ s[j]? = some c ∧ d = .str [c] := by
  simp only [idxD, dictOf] at h
  cases b with
  | int i =>
    simp only at h
    split at h
    · rename_i hl
      simp only [Option.bind_eq_some_iff, Option.map_eq_some_iff] at h
      obtain ⟨j, h1, c, h2, h3⟩ := h
      exact ⟨i, j, c, rfl, hl, h1, h2, h3.symm⟩
    · cases h
  | _ => cases h
theorem idxD_seq {st : HSt} {a b d : D} (hd : dictOf st a = none) (hs : ∀ s, a ≠ .str s) (h : idxD st a b = some d) : ∃ i j ds, b = .int i ∧ seqs st a = some ds ∧ idxN ds.length i = some j ∧ ds[j]? = some d := by
  unfold idxD at h
  rw [hd] at h
  cases b with
  | int i =>
    cases a with
    | str s => exact absurd rfl (hs s)
    | _ =>
      simp only [Option.bind_eq_some_iff] at h
      obtain ⟨ds, h1, j, h2, h3⟩ := h
      exact ⟨i, j, ds, rfl, h1, h2, h3⟩
  | _ => cases h
theorem o_idx (hu : X.A.units + 1 < cLine) : IxR X (rP2 (Gx X g) fun st a b => idxD st a b) := by
  intro value slice pins s σ H x y v u Q I rx ry ⟨w, st, d1, d2, d, wr, r1, r2, e, p⟩ hs
  cases hd : dictOf st d1 with
  | some kv =>
    obtain ⟨ks, vs⟩ := kv
    obtain ⟨k, ek, lk⟩ := idxD_dict hd e
    obtain ⟨a, ws, ey, hh, hl, q⟩ := r1.dictAt wr hd
    subst ey
    obtain rfl : v = Value.ref a := rx
    have ex := keyD_kV ek r2
    subst ex
    have lv := look_valV (k := k) hl q
    rw [lk] at lv
    obtain ⟨z, ez, rz⟩ := lv
    have dg : DGet H a (kV (kyK k)) (some z) := by rw [← ez]; exact DGet.k hh
    exact tail_any (dict_typeIs I dg) PySem.F.slot_dict_getitem.lookup (d_getItem hu I dg ry fun w' s' I' r' => ⟨z, H, I', r', p.here rz⟩) hs
  | none =>
    by_cases hst : ∃ s, d1 = .str s
    · obtain ⟨t, rfl⟩ := hst
      obtain ⟨i, j, c, rfl, hl, h1, h2, rfl⟩ := idxD_str e
      cases rep_str r1; cases rep_int r2
      exact ix_str value slice pins s σ H _ _ v u Q I rx ry ⟨_, i, c, rfl, rfl, by have z : t.length ≤ 16777216 := hl; simpa [Str.length, sizeLine_eq] using z, by unfold L2.atI; rw [str_toList, idxN_at h1]; exact h2, p.here (.str [c])⟩ hs
    · obtain ⟨i, j, ds, rfl, h0, h1, h2⟩ := idxD_seq hd (fun s e => hst ⟨s, e⟩) e
      cases rep_int r2
      obtain ⟨a, vs, rfl, hq, ra⟩ := r1.sq wr h0
      obtain ⟨z, ez, rz⟩ := ra.get h2
      have ha : L2.atI vs i = some z := by unfold L2.atI; rw [← ra.length, idxN_at h1]; exact ez
      rcases hq with hq | hq
      · exact ix_list value slice pins s σ H _ _ v u Q I rx ry ⟨a, vs, i, z, rfl, rfl, hq, ha, p.here rz⟩ hs
      · exact ix_tup value slice pins s σ H _ _ v u Q I rx ry ⟨a, vs, i, z, rfl, rfl, hq, ha, p.here rz⟩ hs

/-! ### built-in calls -/
def rPL (G : GC) (f : HSt → List D → Option D) : List V → Hp → VK → Prop := fun xs H Q => ∃ w st ds d, WRel G w H st ∧ RepAll G w H ds xs ∧ f st ds = some d ∧ PY G w H d Q
theorem RepAll.one {G : GC} {w : Wd} {H : Hp} {d : D} {xs : List V} (r : RepAll G w H [d] xs) : ∃ v, xs = [v] ∧ Rep G w H d v := by
  cases r with
  | cons h t => cases t; exact ⟨_, rfl, h⟩
theorem RepAll.two {G : GC} {w : Wd} {H : Hp} {d e : D} {xs : List V} (r : RepAll G w H [d, e] xs) : ∃ v u, xs = [v, u] ∧ Rep G w H d v ∧ Rep G w H e u := by
  cases r with
  | cons h t => cases t with
    | cons h2 t2 => cases t2; exact ⟨_, _, rfl, h, h2⟩
/-- a list of one argument -/
theorem one_arg {α : Type} {ds : List D} {f : D → Option α} {r : α} (h : (match ds with | [d] => f d | _ => none) = some r) : ∃ d, ds = [d] ∧ f d = some r := by
  match ds, h with
  | [d], h => exact ⟨d, rfl, h⟩
  | [], h => cases h
  | _ :: _ :: _, h => cases h
theorem c_len : CallR X (.builtin "len") (rPL (Gx X g) fun st ds => biD st .len ds) := by
  intro pins s σ H xs us Q I r ⟨w, st, ds, d, wr, ra, e, p⟩
  match ds, e with
  | [d1], e =>
    obtain ⟨x, rfl, r1⟩ := ra.one
    simp only [biD, Option.map_eq_some_iff] at e
    obtain ⟨n, e, rfl⟩ := e
    by_cases hst : ∃ s, d1 = .str s
    · obtain ⟨t, rfl⟩ := hst
      simp only [lenD] at e
      split at e
      · rename_i hl
        cases e
        cases rep_str r1
        exact call_len pins s σ H _ us Q I r ⟨_, _, rfl, ⟨by have z : t.length ≤ 16777216 := hl; simpa [Str.length, sizeLine_eq] using z, by simp [Str.length]⟩, p.here (.int _)⟩
      · cases e
    · by_cases hdk : ∃ p : List KY × List D, d1 = .dk p.1 p.2
      · obtain ⟨⟨ks, vs⟩, rfl⟩ := hdk
        cases e
        cases r1 with
        | dk f h hl q =>
          refine call_lenD pins s σ H _ us Q I r ⟨_, _, rfl, h, ?_⟩
          rw [List.length_zip, List.length_map, ← hl, Nat.min_self]
          exact p.here (.int _)
      · have e2 : (seqs st d1).map List.length = some n := by
          cases d1 <;> first | exact e | exact absurd ⟨_, rfl⟩ hst | exact absurd ⟨(_, _), rfl⟩ hdk
        simp only [Option.map_eq_some_iff] at e2
        obtain ⟨es, e3, rfl⟩ := e2
        obtain ⟨a, vs, rfl, hq, q⟩ := r1.sq wr e3
        refine call_len_seq pins s σ H _ us Q I r ⟨a, vs, rfl, hq, ?_⟩
        rw [← q.length]
        exact p.here (.int _)
  | [], e => cases e
  | _ :: _ :: _, e => cases e
theorem allB_map : ∀ {ds : List D} {b : Bool} {G : GC} {w : Wd} {H : Hp} {vs : List V}, allB ds = some b → RepAll G w H ds vs → ∃ bs : List Bool, vs = bs.map V.bl ∧ b = bs.all id
  | [], b, _, _, _, _, h, .nil => ⟨[], rfl, by cases h; rfl⟩
  | .bl c :: ds, b, _, _, _, _, h, .cons q r => by
    simp only [allB, Option.map_eq_some_iff] at h
    obtain ⟨b', h, rfl⟩ := h
    obtain ⟨bs, rfl, rfl⟩ := allB_map h r
    cases rep_bl q
    exact ⟨c :: bs, rfl, rfl⟩
theorem anyB_map : ∀ {ds : List D} {b : Bool} {G : GC} {w : Wd} {H : Hp} {vs : List V}, anyB ds = some b → RepAll G w H ds vs → ∃ bs : List Bool, vs = bs.map V.bl ∧ b = bs.any id
  | [], b, _, _, _, _, h, .nil => ⟨[], rfl, by cases h; rfl⟩
  | .bl c :: ds, b, _, _, _, _, h, .cons q r => by
    simp only [anyB, Option.map_eq_some_iff] at h
    obtain ⟨b', h, rfl⟩ := h
    obtain ⟨bs, rfl, rfl⟩ := anyB_map h r
    cases rep_bl q
    exact ⟨c :: bs, rfl, rfl⟩
theorem allInt_map : ∀ {ds : List D} {ns : List Int} {G : GC} {w : Wd} {H : Hp} {vs : List V}, allInt ds = some ns → RepAll G w H ds vs → vs = ns.map V.int
  | [], _, _, _, _, _, h, .nil => by cases h; rfl
  | .int c :: ds, b, _, _, _, _, h, .cons q r => by
    simp only [allInt, Option.map_eq_some_iff] at h
    obtain ⟨b', h, rfl⟩ := h
    cases rep_int q
    rw [allInt_map h r]; rfl
def mkS (s : List Nat) : Str := ⟨s.toArray⟩
theorem allStr_map : ∀ {ds : List D} {ns : List (List Nat)} {G : GC} {w : Wd} {H : Hp} {vs : List V}, allStr ds = some ns → RepAll G w H ds vs → vs = (ns.map mkS).map V.str
  | [], _, _, _, _, _, h, .nil => by cases h; rfl
  | .str c :: ds, b, _, _, _, _, h, .cons q r => by
    simp only [allStr, Option.map_eq_some_iff] at h
    obtain ⟨b', h, rfl⟩ := h
    cases rep_str q
    rw [allStr_map h r]; rfl
theorem c_all (hc : X.calm = true) : CallR X (.builtin "all") (rPL (Gx X g) fun st ds => biD st .all_ ds) := by
  intro pins s σ H xs us Q I r ⟨w, st, ds, d, wr, ra, e, p⟩
  match ds, e with
  | [.lst es], e =>
    obtain ⟨x, rfl, r1⟩ := ra.one
    simp only [biD, bD, Option.map_eq_some_iff] at e
    obtain ⟨b, e2, rfl⟩ := e
    cases r1 with
    | lst f h q =>
      obtain ⟨bs, rfl, rfl⟩ := allB_map e2 q
      exact cr_all hc pins s σ H _ us Q I r ⟨_, bs, rfl, SqL.of h, p.here (.bl _)⟩
theorem c_any (hc : X.calm = true) : CallR X (.builtin "any") (rPL (Gx X g) fun st ds => biD st .any_ ds) := by
  intro pins s σ H xs us Q I r ⟨w, st, ds, d, wr, ra, e, p⟩
  match ds, e with
  | [.lst es], e =>
    obtain ⟨x, rfl, r1⟩ := ra.one
    simp only [biD, bD, Option.map_eq_some_iff] at e
    obtain ⟨b, e2, rfl⟩ := e
    cases r1 with
    | lst f h q =>
      obtain ⟨bs, rfl, rfl⟩ := anyB_map e2 q
      exact cr_any hc pins s σ H _ us Q I r ⟨_, bs, rfl, SqL.of h, p.here (.bl _)⟩
theorem c_sum (hc : X.calm = true) : CallR X (.builtin "sum") (rPL (Gx X g) fun st ds => biD st .sum ds) := by
  intro pins s σ H xs us Q I r ⟨w, st, ds, d, wr, ra, e, p⟩
  match ds, e with
  | [.lst es], e =>
    obtain ⟨x, rfl, r1⟩ := ra.one
    simp only [biD, Option.map_eq_some_iff] at e
    obtain ⟨b, e2, rfl⟩ := e
    cases r1 with
    | lst f h q =>
      cases allInt_map e2 q
      exact cr_sum hc pins s σ H _ us Q I r ⟨_, b, rfl, SqL.of h, p.here (.int _)⟩
theorem c_tuple : CallR X (.type "tuple") (rPL (Gx X g) fun st ds => biD st .tuple ds) := by
  intro pins s σ H xs us Q I r ⟨w, st, ds, d, wr, ra, e, p⟩
  match ds, e with
  | [d1], e =>
    obtain ⟨x, rfl, r1⟩ := ra.one
    simp only [biD, Option.map_eq_some_iff] at e
    obtain ⟨es, e2, rfl⟩ := e
    by_cases ht : ∃ es, d1 = .tup es
    · obtain ⟨es', rfl⟩ := ht
      cases e2
      have r1' := r1
      cases r1 with
      | tup l q => exact call_tupleF pins s σ H _ us Q I r ⟨_, _, rfl, .inr ⟨l.sq, p.here r1'⟩⟩
    · obtain ⟨a, vs, rfl, hq, q⟩ := r1.sqL wr e2 (fun z e => ht ⟨z, e⟩)
      exact call_tupleF pins s σ H _ us Q I r ⟨_, _, rfl, .inl ⟨hq, p.tup wr q⟩⟩
theorem c_list : CallR X (.type "list") (rPL (Gx X g) fun st ds => biD st .list ds) := by
  intro pins s σ H xs us Q I r ⟨w, st, ds, d, wr, ra, e, p⟩
  match ds, e with
  | [d1], e =>
    obtain ⟨x, rfl, r1⟩ := ra.one
    simp only [biD, Option.map_eq_some_iff] at e
    obtain ⟨es, e2, rfl⟩ := e
    obtain ⟨a, vs, rfl, hq, q⟩ := r1.sq wr e2
    exact call_list_of pins s σ H _ us Q I r ⟨_, _, rfl, hq, p.lst wr q⟩
theorem c_int : CallR X (.type "int") (rPL (Gx X g) fun st ds => biD st .int ds) := by
  intro pins s σ H xs us Q I r ⟨w, st, ds, d, wr, ra, e, p⟩
  match ds, e with
  | [.int i], e =>
    obtain ⟨x, rfl, r1⟩ := ra.one
    cases e
    cases rep_int r1
    exact call_int1 pins s σ H _ us Q I r (.inl ⟨i, rfl, p.here (.int _)⟩)
  | [.bl b], e =>
    obtain ⟨x, rfl, r1⟩ := ra.one
    cases e
    cases rep_bl r1
    exact call_int1 pins s σ H _ us Q I r (.inr ⟨b, rfl, p.here (.int _)⟩)
theorem c_max2 (hc : X.calm = true) : CallR X (.builtin "max") (rPL (Gx X g) fun st ds => biD st .max2 ds) := by
  intro pins s σ H xs us Q I r ⟨w, st, ds, d, wr, ra, e, p⟩
  match ds, e with
  | [.int i, .int j], e =>
    obtain ⟨x, y, rfl, r1, r2⟩ := ra.two
    cases e
    cases rep_int r1; cases rep_int r2
    exact call_max2 hc pins s σ H _ us Q I r ⟨i, j, rfl, p.here (.int _)⟩
theorem c_min2 (hc : X.calm = true) : CallR X (.builtin "min") (rPL (Gx X g) fun st ds => biD st .min2 ds) := by
  intro pins s σ H xs us Q I r ⟨w, st, ds, d, wr, ra, e, p⟩
  match ds, e with
  | [.int i, .int j], e =>
    obtain ⟨x, y, rfl, r1, r2⟩ := ra.two
    cases e
    cases rep_int r1; cases rep_int r2
    exact call_min2 hc pins s σ H _ us Q I r ⟨i, j, rfl, p.here (.int _)⟩
/-! ### sorted -/
theorem ltCps_N : ∀ s t : List Nat, PySem.Spec.ltCps s t = ltN s t
  | [], [] => rfl
  | [], _ :: _ => rfl
  | _ :: _, [] => rfl
  | a :: s, b :: t => by
    simp only [PySem.Spec.ltCps, ltN, ltCps_N s t]
    rw [Bool.eq_iff_iff]
    simp [Nat.blt_eq]
theorem ltN_irr : ∀ s : List Nat, ltN s s = false
  | [] => rfl
  | a :: s => by
    have q : Nat.blt a a = false := by
      cases h : Nat.blt a a with
      | false => rfl
      | true => rw [Nat.blt_eq] at h; omega
    simp [ltN, ltN_irr s, q]
theorem ltN_trans : ∀ {s t u : List Nat}, ltN s t = true → ltN t u = true → ltN s u = true
  | [], _, [], _, h => by (cases ‹List Nat› <;> simp [ltN] at *)
  | [], _, _ :: _, _, _ => rfl
  | _ :: _, [], _, h, _ => by simp [ltN] at h
  | _ :: _, _ :: _, [], _, h => by simp [ltN] at h
  | a :: s, b :: t, c :: u, h, h' => by
    simp only [ltN, Bool.or_eq_true, Bool.and_eq_true, Nat.blt_eq, Nat.beq_eq] at h h' ⊢
    rcases h with h | ⟨h, h1⟩
    · rcases h' with h' | ⟨h', _⟩
      · exact .inl (by omega)
      · exact .inl (by omega)
    · rcases h' with h' | ⟨h', h2⟩
      · exact .inl (by omega)
      · exact .inr ⟨by omega, ltN_trans h1 h2⟩
theorem ltN_tot : ∀ {s t : List Nat}, ltN s t = false → ltN t s = false → s = t
  | [], [], _, _ => rfl
  | [], _ :: _, h, _ => by simp [ltN] at h
  | _ :: _, [], _, h => by simp [ltN] at h
  | a :: s, b :: t, h, h' => by
    simp only [ltN, Bool.or_eq_false_iff, Bool.and_eq_false_iff] at h h'
    have h1 : ¬ a < b := fun z => by rw [← Nat.blt_eq, h.1] at z; cases z
    have h2 : ¬ b < a := fun z => by rw [← Nat.blt_eq, h'.1] at z; cases z
    have e : a = b := by omega
    subst e
    have q1 : ltN s t = false := h.2.elim (fun z => absurd (Nat.beq_refl a) (by rw [z]; exact Bool.false_ne_true)) id
    have q2 : ltN t s = false := h'.2.elim (fun z => absurd (Nat.beq_refl a) (by rw [z]; exact Bool.false_ne_true)) id
    rw [ltN_tot q1 q2]
theorem leN_trans {a b c : List Nat} (h : ltN b a = false) (h' : ltN c b = false) : ltN c a = false := by
  cases q : ltN c a with
  | false => rfl
  | true =>
    cases q2 : ltN a b with
    | true => rw [ltN_trans q q2] at h'; cases h'
    | false =>
      have e := ltN_tot q2 h
      subst e
      rw [q] at h'; cases h'
theorem insN_perm (x : List Nat) : ∀ l, (insN x l).Perm (x :: l)
  | [] => List.Perm.refl _
  | y :: ys => by
    simp only [insN]
    split
    · exact ((insN_perm x ys).cons y).trans (List.Perm.swap x y ys)
    · exact List.Perm.refl _
theorem sortN_perm : ∀ l, (sortN l).Perm l
  | [] => List.Perm.refl _
  | x :: xs => (insN_perm x _).trans ((sortN_perm xs).cons x)
theorem insN_sorted (x : List Nat) : ∀ {l}, l.Pairwise (fun a b => ltN b a = false) → (insN x l).Pairwise (fun a b => ltN b a = false)
  | [], _ => by simp [insN]
  | y :: ys, h => by
    rw [List.pairwise_cons] at h
    simp only [insN]
    split
    · rename_i q
      rw [List.pairwise_cons]
      refine ⟨fun z hz => ?_, insN_sorted x h.2⟩
      rcases List.mem_cons.mp ((insN_perm x ys).mem_iff.mp hz) with e | e
      · subst e
        cases q2 : ltN z y with
        | false => rfl
        | true => have := ltN_trans q q2; rw [ltN_irr] at this; cases this
      · exact h.1 z e
    · rename_i q
      have q : ltN y x = false := by simpa using q
      rw [List.pairwise_cons]
      refine ⟨fun z hz => ?_, List.pairwise_cons.mpr h⟩
      rcases List.mem_cons.mp hz with e | e
      · subst e; exact q
      · exact leN_trans q (h.1 z e)
theorem sortN_sorted : ∀ l, (sortN l).Pairwise (fun a b => ltN b a = false)
  | [] => .nil
  | x :: xs => insN_sorted x (sortN_sorted xs)
theorem risingS_pw : ∀ (p : Str) (l : List Str), risingS p l = true → (p :: l).Pairwise (fun a b => ltN b.cps.toList a.cps.toList = false)
  | p, [], _ => by simp
  | p, x :: r, h => by
    simp only [risingS, Bool.and_eq_true, Bool.not_eq_true', ltCps_N] at h
    have q := risingS_pw x r h.2
    rw [List.pairwise_cons]
    refine ⟨fun z hz => ?_, q⟩
    rcases List.mem_cons.mp hz with e | e
    · subst e; exact h.1
    · exact leN_trans h.1 ((List.pairwise_cons.mp q).1 z e)
theorem mkS_cps (s : Str) : mkS s.cps.toList = s := by cases s; simp [mkS]
theorem sortN_unique {ns : List (List Nat)} {ys : List Str} (hp : ys.Perm (ns.map mkS)) (hs : sortedS ys = true) : ys = (sortN ns).map mkS := by
  have hpw : ys.Pairwise (fun a b => ltN b.cps.toList a.cps.toList = false) := by
    cases ys with
    | nil => exact .nil
    | cons y r => exact risingS_pw y r hs
  refine List.Perm.eq_of_pairwise (le := fun a b : Str => ltN b.cps.toList a.cps.toList = false) (fun a b _ _ h h' => ?_) hpw ?_ (hp.trans ((sortN_perm ns).map mkS).symm)
  · have e := ltN_tot h' h
    rw [← mkS_cps a, ← mkS_cps b, e]
  · rw [List.pairwise_map]
    exact sortN_sorted ns
theorem reps_strs {G : GC} {w : Wd} {H : Hp} : ∀ ns : List (List Nat), RepAll G w H (ns.map D.str) ((ns.map mkS).map V.str)
  | [] => .nil
  | s :: ns => .cons (.str s) (reps_strs ns)
theorem c_sorted : CallR X (.builtin "sorted") (rPL (Gx X g) fun st ds => biD st .sorted ds) := by
  intro pins s σ H xs us Q I r ⟨w, st, ds, d, wr, ra, e, p⟩
  match ds, e with
  | [.lst es], e =>
    obtain ⟨x, rfl, r1⟩ := ra.one
    simp only [biD, Option.bind_eq_some_iff] at e
    obtain ⟨ss, e2, e3⟩ := e
    split at e3
    · rename_i h64
      cases e3
      cases r1 with
      | lst f h q =>
        cases allStr_map e2 q
        refine cr_sortedS pins s σ H _ us Q I r ⟨_, ss.map mkS, rfl, SqL.of h, by simpa using h64, fun ys pp hp hs hn => ?_⟩
        rw [sortN_unique hp hs]
        exact p.lst wr (reps_strs _) pp hn
    · cases e3

/-! ### dict -/
theorem TupAt.plain {pins : List (Addr × Obj)} {σ : L2.St} {H : Hp} {s : Shared} {F : Addr → Prop} {a : Addr} {xs : List V} (I : L2.Inv X pins σ H s) (t : TupAt X.K F H a xs) :
    ∃ its : List Value, Vals xs its ∧ xs.length ≤ sizeLine ∧ ∃ (o : Obj) (n : Nat), s.heap.get? a = some o ∧ o.cls = .type "tuple" ∧ o.dict = none ∧ o.data = .seq its.toArray n := by
  rcases t with ⟨_, o, hd, h⟩ | ⟨o, its, n, h1, h2, h3, h4, h5, h6⟩
  · obtain ⟨e, hz, its, r, o', e', c, n, d⟩ := I.hok a _ h
    rw [e] at e'; cases e'
    exact ⟨its, r, hz, o, n, e, c, hd, d⟩
  · refine ⟨its.toList, h6, ?_, o, n, I.kIn a o h1, h2, h3, by simpa using h4⟩
    have := h6.length
    simp only [Array.length_toList] at this
    omega
/-- pairs: keys, values, the tuples' addresses -/
theorem pairsK_cons {d : D} {ds : List D} {ps : List (KY × D)} (h : pairsK (d :: ds) = some ps) : ∃ k x k' ps', d = .tup [k, x] ∧ keyD k = some k' ∧ pairsK ds = some ps' ∧ ps = (k', x) :: ps' := by
  unfold pairsK at h
  split at h
  · rename_i e
    cases e
  · rename_i k x ds' e
    cases e
    simp only [Option.bind_eq_some_iff, Option.map_eq_some_iff] at h
    obtain ⟨k', hk, ps', h, rfl⟩ := h
    exact ⟨k, x, k', ps', rfl, hk, h, rfl⟩
  · cases h
theorem pairsK_at {G : GC} {w : Wd} {H : Hp} : ∀ {ds : List D} {ps : List (KY × D)} {vs : List V}, pairsK ds = some ps → RepAll G w H ds vs →
    ∃ (as : List Addr) (ws : List V), vs = as.map V.ref ∧ ps.length = as.length ∧ RepAll G w H (ps.map (·.2)) ws ∧ Paired (fun (a : Addr) (kv : Key × V) => TupAt G.K w.F H a [kV kv.1, kv.2]) as ((ps.map fun p => kyK p.1).zip ws)
  | [], _, _, h, .nil => by cases h; exact ⟨[], [], rfl, rfl, .nil, .nil⟩
  | d :: ds, ps, v :: vs, h, .cons q r => by
    obtain ⟨k, x, k', ps', rfl, hk, h2, rfl⟩ := pairsK_cons h
    obtain ⟨as, ws, rfl, hl, ra, hp⟩ := pairsK_at h2 r
    cases q with
    | tup l a =>
      obtain ⟨kv, xv, rfl, rk, rx⟩ := a.two
      have e := keyD_kV hk rk
      subst e
      exact ⟨_ :: as, xv :: ws, rfl, by simp [hl], .cons rx ra, .cons l hp⟩
theorem putD_len {ks : List KY} {vs : List D} (k : KY) (d : D) (h : ks.length = vs.length) : (putD ks vs k d).1.length = (putD ks vs k d).2.length := by
  unfold putD
  split
  · show ks.length = (putV ks vs k d).length
    have : ∀ (ks : List KY) (vs : List D), ks.length = vs.length → (putV ks vs k d).length = ks.length := by
      intro ks
      induction ks with
      | nil => intro vs h; cases vs with | nil => rfl | cons => simp at h
      | cons a ks ih =>
        intro vs h
        cases vs with
        | nil => simp at h
        | cons v vs =>
          simp only [putV]
          split <;> simp [ih vs (by simpa using h)]
    exact (this ks vs h).symm
  · simp [h]
theorem putD_putK {G : GC} {w : Wd} {H : Hp} {ks : List KY} {vs : List D} {ws : List V} {k : KY} {d : D} {v : V} (hl : ks.length = ws.length) (r : RepAll G w H vs ws) (h : Rep G w H d v) :
    ∃ ws', putK ((ks.map kyK).zip ws) (kyK k) v = (((putD ks vs k d).1).map kyK).zip ws' ∧ (putD ks vs k d).1.length = ws'.length ∧ RepAll G w H (putD ks vs k d).2 ws' := by
  have any_has : ∀ (ks : List KY) (ws : List V), ks.length = ws.length → (((ks.map kyK).zip ws).any fun kv => decide (kv.1 = kyK k)) = hasK ks k := by
    intro ks
    induction ks with
    | nil => intro ws _; rfl
    | cons a ks ih =>
      intro ws h
      cases ws with
      | nil => simp at h
      | cons x ws =>
        simp only [List.map_cons, List.zip_cons_cons, List.any_cons, hasK]
        rw [ih ws (by simpa using h)]
        congr 1
        rw [Bool.eq_iff_iff, eqK_iff]
        simp only [decide_eq_true_eq]
        exact ⟨fun e => kyK_inj e, fun e => by rw [e]⟩
  unfold putK putD
  rw [any_has ks ws hl]
  split
  · rename_i hh
    suffices z : ∀ (ks : List KY) (vs : List D) (ws : List V), ks.length = ws.length → RepAll G w H vs ws →
        ∃ ws', ((ks.map kyK).zip ws).map (fun kv => if kv.1 = kyK k then (kv.1, v) else kv) = (ks.map kyK).zip ws' ∧ ks.length = ws'.length ∧ RepAll G w H (putV ks vs k d) ws' from z ks vs ws hl r
    intro ks
    induction ks with
    | nil => intro vs ws hl r; exact ⟨[], rfl, rfl, by cases vs <;> exact .nil⟩
    | cons a ks ih =>
      intro vs ws hl r
      cases r with
      | nil => simp at hl
      | @cons d' ds v' vs' h' r' =>
        obtain ⟨ws', e1, e2, e3⟩ := ih ds vs' (by simpa using hl) r'
        by_cases e : eqK a k = true
        · have e' := eqK_iff.mp e
          subst e'
          refine ⟨v :: ws', ?_, by simp [e2], ?_⟩
          · simp only [List.map_cons, List.zip_cons_cons, if_true, e1]
          · simp only [putV, e, if_true]
            exact .cons h e3
        · have n : ¬ kyK a = kyK k := fun z => e (eqK_iff.mpr (kyK_inj z))
          refine ⟨v' :: ws', ?_, by simp [e2], ?_⟩
          · simp only [List.map_cons, List.zip_cons_cons, if_neg n, e1]
          · simp only [putV, if_neg e]
            exact .cons h' e3
  · refine ⟨ws ++ [v], ?_, by simp [hl], r.append (.cons h .nil)⟩
    rw [List.map_append, List.zip_append (by simpa using hl)]
    rfl
theorem putAll_merge {G : GC} {w : Wd} {H : Hp} : ∀ {ps : List (KY × D)} {ws : List V} {ks0 : List KY} {vs0 : List D} {ws0 : List V}, RepAll G w H (ps.map (·.2)) ws → ks0.length = ws0.length → RepAll G w H vs0 ws0 →
    ∃ ws', mergeK ((ks0.map kyK).zip ws0) ((ps.map fun p => kyK p.1).zip ws) = ((putAll ps (ks0, vs0)).1.map kyK).zip ws' ∧ (putAll ps (ks0, vs0)).1.length = ws'.length ∧ RepAll G w H (putAll ps (ks0, vs0)).2 ws'
  | [], _, ks0, vs0, ws0, .nil, hl, r => ⟨ws0, rfl, hl, r⟩
  | (k, d) :: ps, v :: ws, ks0, vs0, ws0, .cons h t, hl, r => by
    obtain ⟨ws1, e1, e2, e3⟩ := putD_putK (k := k) hl r h
    obtain ⟨ws2, f1, f2, f3⟩ := putAll_merge (ps := ps) t e2 e3
    refine ⟨ws2, ?_, f2, f3⟩
    simp only [List.map_cons, List.zip_cons_cons]
    show mergeK (putK ((ks0.map kyK).zip ws0) (kyK k) v) _ = _
    rw [e1, f1]
    rfl

theorem pairs_vals {pins : List (Addr × Obj)} {σ : L2.St} {H : Hp} {s : Shared} {F : Addr → Prop} (I : L2.Inv X pins σ H s) : ∀ {as : List Addr} {kvs : List (Key × V)}, Paired (fun (a : Addr) (kv : Key × V) => TupAt X.K F H a [kV kv.1, kv.2]) as kvs →
    ∃ (us : List (Value × Value)) (prs : List (Key × Value)), us.length = as.length ∧ KV kvs prs ∧ prs.length = as.length ∧
      ∀ (j : Nat) a, as[j]? = some a → ∃ k u, us[j]? = some (k, u) ∧ s.heap.IsTuple a #[k, u] ∧ ∃ q, prs[j]? = some (q, u) ∧ keyIs q k = true
  | [], [], .nil => ⟨[], [], rfl, .nil, rfl, fun j a e => by simp at e⟩
  | a :: as, kv :: kvs, .cons t r => by
    obtain ⟨us, prs, h1, h2, h3, h4⟩ := pairs_vals I r
    obtain ⟨its, rv, hz, o, n, ho, hc, hd, hdat⟩ := TupAt.plain I t
    cases rv with
    | @cons _ k _ _ rk rt => cases rt with
      | @cons _ u _ _ ru rn =>
        cases rn
        refine ⟨(k, u) :: us, (kv.1, u) :: prs, by simp [h1], .cons ⟨rfl, ru⟩ h2, by simp [h3], fun j b e => ?_⟩
        cases j with
        | zero =>
          simp at e; subst e
          exact ⟨k, u, rfl, ⟨o, ho, hc, n, hdat⟩, kv.1, rfl, kV_is (P := X.prog) (w := X.w) rk⟩
        | succ j =>
          obtain ⟨k', u', e1, e2, e3⟩ := h4 j b (by simpa using e)
          exact ⟨k', u', by simpa using e1, e2, by simpa using e3⟩
theorem dict_of_pairs (hc : X.calm = true) {pins : List (Addr × Obj)} {σ : L2.St} {H : Hp} {s : Shared} {Q : VK} {w : Wd} {st : HSt} (I : L2.Inv X pins σ H s) {ps : List (KY × D)} {es : List D} {vs : List V} (wr : WRel (Gx X g) w H st) (a : Addr) (T : String) (its : List Value)
    (hT : T = "list" ∨ T = "tuple") (rv : Vals vs its) (hz : vs.length ≤ sizeLine) (hob : ∃ (o : Obj) (n : Nat), s.heap.get? a = some o ∧ o.cls = .type T ∧ o.dict = none ∧ o.data = .seq its.toArray n) (q : RepAll (Gx X g) w H es vs) (e2 : pairsK es = some ps)
    (p : PY (Gx X g) w H (.dk (putAll ps ([], [])).1 (putAll ps ([], [])).2) Q) : wpAny (model X.prog X.w) X.A (call (.type "dict") [.ref a]) (EP X pins σ Q) X.xe s := by
  obtain ⟨as, ws, rfl, hl, ra, hp⟩ := pairsK_at e2 q
  have wl : ps.length = ws.length := by simpa using ra.length
  obtain ⟨us, prs, h1, h2, h3, h4⟩ := pairs_vals I hp
  have hits : its = as.map Value.ref := refs_at rv
  have hlen : as.length ≤ sizeLine := by simpa using hz
  have pit : PairItems s.heap its.toArray (fun j => as.getD j 0) us := by
    refine ⟨by rw [hits]; simp [h1], fun j k v hj => ?_⟩
    have hjl : j < as.length := by rw [← h1]; exact (List.getElem?_eq_some_iff.mp hj).1
    obtain ⟨k', u', e1, e3, _⟩ := h4 j as[j] (List.getElem?_eq_getElem hjl)
    rw [hj] at e1; cases e1
    refine ⟨by rw [hits]; simp [hjl], .inl ?_⟩
    have : as.getD j 0 = as[j] := by simp [List.getD, hjl]
    show s.heap.IsTuple (as.getD j 0) _
    rw [this]; exact e3
  have ph : PairsHave (mixKind X.prog X.w) us.length (PairRel us) prs := by
    refine ⟨by rw [h3, h1], fun i key v hi => ?_⟩
    have hjl : i < as.length := by rw [← h1]; exact (List.getElem?_eq_some_iff.mp hi).1
    obtain ⟨k', u', e1, _, q', e3, e4⟩ := h4 i as[i] (List.getElem?_eq_getElem hjl)
    rw [hi] at e1; cases e1
    exact ⟨q', e3, e4⟩
  obtain ⟨ws', m1, m2, m3⟩ := putAll_merge (ks0 := []) (vs0 := []) (ws0 := []) ra rfl .nil
  have fin : ∀ h' tk, h'.DictOf (mixKind X.prog X.w) s.heap.objs.size (merged [] prs) → (∀ b o, b ∉ ([] : List Addr) → s.heap.get? b = some o → h'.get? b = some o) → EP X pins σ Q (.ref s.heap.objs.size) { s with heap := h', toks := tk } := by
    intro h' tk hd k
    have hm : (s.heap.objs.size == sysModules) = false := beq_eq_false_iff_ne.mpr (Nat.ne_of_gt I.big)
    have kvm : KV (mergeK [] ((ps.map fun p => kyK p.1).zip ws)) (merged [] prs) := KV.merge h2 .nil
    have hlm : (mergeK [] ((ps.map fun p => kyK p.1).zip ws)).length ≤ sizeLine := by
      refine Nat.le_trans (length_mergeK _ []) ?_
      rw [List.length_nil, Nat.zero_add, List.length_zip, List.length_map, ← wl, Nat.min_self, hl]
      exact hlen
    have fr := I.hok.fresh (Nat.le_refl s.heap.objs.size)
    refine ⟨.ref s.heap.objs.size, upd H s.heap.objs.size (.dK (mergeK [] ((ps.map fun p => kyK p.1).zip ws))), I.laid (t' := tk) (fun b o e => k b o (by simp) e) (Nat.le_refl _) (show ObjOk X.prog X.w _ _ _ (.dK _) from ⟨hlm, hm, merged [] prs, kvm, hd⟩), rfl, ?_⟩
    refine p (w.frz s.heap.objs.size) _ _ (.new fr) ?_
    have m1' : mergeK [] ((ps.map fun p => kyK p.1).zip ws) = ((putAll ps ([], [])).1.map kyK).zip ws' := m1
    rw [m1']
    exact .dk (.inr rfl) upd_same m2 (m3.mono ((PExt.new fr).ext.le wr))
  rcases hT with rfl | rfl
  · obtain ⟨o, n, ho, hcl, hd, hdat⟩ := hob
    exact PySem.call_dict_pairs (knd := mixKind X.prog X.w) (kvs := prs) (PairArg.list a its.toArray (fun j => as.getD j 0) us) (I.ok.hd hc) ⟨⟨o, n, ho, hcl, hd, hdat⟩, pit⟩ ph (by rw [h1]; exact hlen) fin
  · obtain ⟨o, n, ho, hcl, hd, hdat⟩ := hob
    exact PySem.call_dict_pairs (knd := mixKind X.prog X.w) (kvs := prs) (PairArg.tuple a its.toArray (fun j => as.getD j 0) us) (I.ok.hd hc) ⟨⟨o, n, ho, hcl, hd, hdat⟩, pit⟩ ph (by rw [h1]; exact hlen) fin
theorem c_dict (hc : X.calm = true) : CallR X (.type "dict") (rPL (Gx X g) fun st ds => biD st .dict ds) := by
  intro pins s σ H xs us Q I r ⟨w, st, ds, d, wr, ra, e, p⟩
  match ds, e with
  | [.lst es], e =>
    obtain ⟨x, rfl, r1⟩ := ra.one
    simp only [biD, Option.map_eq_some_iff] at e
    obtain ⟨ps, e2, rfl⟩ := e
    cases r1 with
    | lst f h q =>
      obtain ⟨u, rfl, rx⟩ := vals1 r
      cases rx
      obtain ⟨hz, its, n, rv, ho⟩ := I.hok _ _ h
      exact dict_of_pairs hc I wr _ "list" its (.inl rfl) rv hz ⟨_, n, ho, rfl, rfl, rfl⟩ q e2 p
  | [.tup es], e =>
    obtain ⟨x, rfl, r1⟩ := ra.one
    simp only [biD, Option.map_eq_some_iff] at e
    obtain ⟨ps, e2, rfl⟩ := e
    cases r1 with
    | tup l q =>
      obtain ⟨u, rfl, rx⟩ := vals1 r
      cases rx
      obtain ⟨its, rv, hz, ho⟩ := TupAt.plain I l
      exact dict_of_pairs hc I wr _ "tuple" its (.inr rfl) rv hz ho q e2 p
  | [.dk ks vs], e =>
    obtain ⟨x, rfl, r1⟩ := ra.one
    cases e
    cases r1 with
    | dk f h hl q =>
      refine call_dictD pins s σ H _ us Q I r ⟨_, _, rfl, .inl h, fun pp hp => ?_⟩
      exact p _ _ _ (.new hp) (.dk (.inr rfl) upd_same hl (q.mono ((PExt.new hp).ext.le wr)))
end
end Ev
namespace Ev
open PySem PySem.Spec PyProof.Rows L2
def tyS : TY → String
  | .str => "str" | .int => "int" | .bool => "bool" | .tuple => "tuple" | .list => "list"
section
variable {X : Cx} {g : GN}
def rIsiD (G : GC) (T : TY) : List V → Hp → VK → Prop := fun xs H Q => ∃ w st d x r, xs = [x, .ty (tyS T)] ∧ WRel G w H st ∧ Rep G w H d x ∧ isiD T d = some r ∧ Q (.bl r) H
theorem isi_kit (T : TY) (a : String) (r : Bool) (h : kitB a (tyS T) = some r) : PySem.W.kitOne X.K (.type a) (.type (tyS T)) = some r := kit_ty h
theorem c_isi (T : TY) : CallR X (.builtin "isinstance") (rIsiD (Gx X g) T) := by
  intro pins s σ H xs us Q I r ⟨w, st, d, x, b, ex, wr, r1, e, q⟩
  subst ex
  have go : ∀ (t : Value) (a : String), TyX X.K H x t → t = .type a → kitB a (tyS T) = some b → wpAny (model X.prog X.w) X.A (call (.builtin "isinstance") us) (EP X pins σ Q) X.xe s := by
    intro t a ty et hk
    subst et
    exact call_isi pins s σ H _ us Q I r ⟨x, _, _, .type (tyS T), b, rfl, .ty _, ty, kit_ty hk, q⟩
  cases r1 with
  | non => exact go _ "NoneType" (.base .non) rfl (by cases T <;> cases e <;> decide +kernel)
  | bl y => exact go _ "bool" (.base (.bl y)) rfl (by cases T <;> cases e <;> decide +kernel)
  | int i => exact go _ "int" (.base (.int i)) rfl (by cases T <;> cases e <;> decide +kernel)
  | str y => exact go _ "str" (.base (.str _)) rfl (by cases T <;> cases e <;> decide +kernel)
  | lst f h a => exact go _ "list" (.base (.lst h)) rfl (by cases T <;> cases e <;> decide +kernel)
  | tup l a =>
    rcases l with ⟨_, o, _, h⟩ | ⟨o, _, _, h, c, _⟩
    · exact go _ "tuple" (.fTuple h) rfl (by cases T <;> cases e <;> decide +kernel)
    · exact go _ "tuple" (.kTuple h c) rfl (by cases T <;> cases e <;> decide +kernel)
  | _ => cases T <;> cases e
/-! ### slices -/
def oI : D → Option (Option Int)
  | .non => some none
  | .int i => some (some i)
  | _ => none
def rSlD (G : GC) : V → Option Int → Option Int → Hp → VK → Prop := fun x lo hi H Q => ∃ w st d dl dh r, WRel G w H st ∧ Rep G w H d x ∧ oI dl = some lo ∧ oI dh = some hi ∧ slcD st d dl dh = some r ∧ PY G w H r Q
theorem cutI_sIx {n k : Nat} {d : D} {o : Option Int} (h : oI d = some o) : cutI n k d = some (HT.sIx n k o) := by
  cases d <;> simp [oI] at h <;> subst h <;> simp [cutI, HT.sIx]
theorem RepAll.cut {G : GC} {w : Wd} {H : Hp} {ds : List D} {vs : List V} (r : RepAll G w H ds vs) (lo hi : Option Int) :
    RepAll G w H ((ds.drop (HT.sIx ds.length 0 lo)).take (HT.sIx ds.length ds.length hi - HT.sIx ds.length 0 lo)) (cutV vs lo hi) := by
  unfold cutV
  rw [← r.length]
  exact (r.drop _).take _
theorem s_slice : SlR X (rSlD (Gx X g)) := by
  intro pins s σ H x v vl vu lo hi sl Q I rx hs pl pu ⟨w, st, d, dl, dh, r, wr, r1, hl, hh, e, p⟩
  cases d with
  | str t =>
    simp only [slcD, cutI_sIx hl, cutI_sIx hh, Option.bind_some, Option.map_some] at e
    split at e
    · rename_i hz
      cases e
      cases rep_str r1
      refine sl_str pins s σ H _ v vl vu lo hi sl Q I rx hs pl pu ⟨_, rfl, by have z : t.length ≤ 16777216 := hz; simpa [Str.length, sizeLine_eq] using z, ?_⟩
      have q := p.here (.str _)
      have e2 : cutS ⟨t.toArray⟩ lo hi = ⟨((t.drop (HT.sIx t.length 0 lo)).take (HT.sIx t.length t.length hi - HT.sIx t.length 0 lo)).toArray⟩ := by
        unfold cutS
        simp [Str.length]
      rw [e2]; exact q
    · cases e
  | tup ds =>
    simp only [slcD, cutI_sIx hl, cutI_sIx hh, Option.bind_some, Option.map_some] at e
    cases e
    have r1' := r1
    cases r1 with
    | tup l a =>
      refine sl_tupF pins s σ H _ v vl vu lo hi sl Q I rx hs pl pu ⟨_, _, rfl, l.sq, fun hw => ?_, fun _ => p.tup wr (a.cut lo hi)⟩
      have e2 : (ds.drop (HT.sIx ds.length 0 lo)).take (HT.sIx ds.length ds.length hi - HT.sIx ds.length 0 lo) = ds := by
        rw [← a.length] at hw
        rw [hw.1, hw.2]
        simp
      rw [e2] at p
      exact p.here r1'
  | lst ds =>
    simp only [slcD, seqs, cutI_sIx hl, cutI_sIx hh, Option.bind_some, Option.map_some] at e
    cases e
    cases r1 with
    | lst f h a => exact sl_list pins s σ H _ v vl vu lo hi sl Q I rx hs pl pu ⟨_, _, rfl, SqL.of h, p.lst wr (a.cut lo hi)⟩
  | fl ds =>
    simp only [slcD, seqs, cutI_sIx hl, cutI_sIx hh, Option.bind_some, Option.map_some] at e
    cases e
    cases r1 with
    | fl h a => exact sl_list pins s σ H _ v vl vu lo hi sl Q I rx hs pl pu ⟨_, _, rfl, h.sq, p.lst wr (a.cut lo hi)⟩
  | hnd n =>
    simp only [slcD, Option.bind_eq_some_iff] at e
    obtain ⟨ds, e0, e⟩ := e
    simp only [cutI_sIx hl, cutI_sIx hh, Option.some.injEq, exists_eq_left', Option.map_some] at e
    cases e
    obtain ⟨a, vs, rfl, hq, ra⟩ := r1.sqL wr e0 (fun _ z => nomatch z)
    exact sl_list pins s σ H _ v vl vu lo hi sl Q I rx hs pl pu ⟨_, _, rfl, hq, p.lst wr (ra.cut lo hi)⟩
  | _ => simp [slcD, seqs] at e
end
end Ev
namespace Ev
open PySem PySem.Spec PyProof.Rows L2
/-! ### does a piece of the text say what the small language says? -/
def seq (x y : Str) : Bool := eqN x.cps.toList y.cps.toList
theorem seq_eq {x y : Str} (h : seq x y = true) : x = y := by
  cases x; cases y
  unfold seq at h
  have e := eqN_iff.mp h
  simp only at e
  rw [Array.toList_inj.mp e]
/-- the text's names -/
structure CK where
  has : Nat → Bool
  fn : Nat → Str
  cn : Nat → Str
  xn : Nat → Str
  lam : Bool
  tld : Nat → Bool
  tn : Nat → Str
  dn : Nat → Str := fun _ => ""
  kd : Nat → List (List Nat × Int) → List (List Nat) → Bool := fun _ _ _ => false
def lookN : List (Str × NameKind) → Str → Option NameKind
  | [], _ => none
  | (n, k) :: r, x => if seq x n then some k else lookN r x
theorem lookN_eq : ∀ (l : List (Str × NameKind)) (x : Str), lookN l x = l.lookup x
  | [], _ => rfl
  | (n, k) :: r, x => by
    simp only [lookN, List.lookup_cons]
    by_cases h : seq x n = true
    · have e := seq_eq h
      subst e
      simp [h]
    · have n' : (x == n) = false := by
        rw [beq_eq_false_iff_ne]
        rintro rfl
        exact h (by unfold seq; rw [eqN_iff])
      rw [if_neg h, n', lookN_eq r x]
def isVis : Option NameKind → Bool
  | some .local => true
  | some .cell => true
  | some .free => true
  | _ => false
def isLoc : Option NameKind → Bool
  | some .local => true
  | some .cell => true
  | _ => false
def isGlob : Option NameKind → Bool
  | some .globalImplicit => true
  | _ => false
def plainName (x : Str) : Bool := !seq x ("__debug__" : Str) && !seq x ("__classdict__" : Str)
def slotB (N : List Str) (i : Nat) (x : Str) : Bool := match N[i]? with
  | some y => seq x y
  | none => false
def varB (N : List Str) (sc : Scope) (i : Nat) (x : Str) : Bool := slotB N i x && isVis (lookN sc.names x) && plainName x
def globB (sc : Scope) (x : Str) (y : Str) : Bool := seq x y && isGlob (lookN sc.names x) && plainName x
def notStar : Expr → Bool
  | .Starred _ _ => false
  | _ => true
def notSet : Expr → Bool
  | .Set _ _ _ => false
  | _ => true
def notSlice : Expr → Bool
  | .Slice _ _ _ _ => false
  | _ => true
/-- a test's own form, or a plain value -/
def plainTest : Expr → Bool
  | .UnaryOp .Not _ _ => false
  | .BoolOp _ _ _ => false
  | .IfExp _ _ _ _ => false
  | .Compare _ _ _ _ => false
  | _ => true
def binO : OP → Operator → Bool
  | .add, .Add => true | .sub, .Sub => true | .mul, .Mult => true | .fdiv, .FloorDiv => true | .mod, .Mod => true | .pow, .Pow => true
  | _, _ => false
def cmpO : OP → CmpOp → Bool
  | .eq, .Eq => true | .ne, .NotEq => true | .lt, .Lt => true | .le, .LtE => true | .gt, .Gt => true | .ge, .GtE => true
  | .is_, .Is => true | .isnot, .IsNot => true | .in_, .In => true | .notin, .NotIn => true
  | _, _ => false
def biN : BI → Str
  | .len => "len" | .all_ => "all" | .any_ => "any" | .sorted => "sorted" | .tuple => "tuple" | .list => "list" | .dict => "dict" | .int => "int" | .str => "str"
  | .sum => "sum" | .max2 => "max" | .min2 => "min"
/-- a comprehension's scope within a def's -/
def relR (scope sc : Scope) : Scope :=
  { scope with names := scope.names.map fun (n, k) => if (k == .free && sc.kind == .function && lookN sc.names n == some .cell) then (n, .cell) else (n, k) }
def ownN (N : List Str) (own : List Nat) : List (Str × Nat) := own.map fun i => (N.getD i "", i)
def isCell : Option NameKind → Bool
  | some .cell => true
  | _ => false
def isLocal : Option NameKind → Bool
  | some .local => true
  | _ => false
mutual
/-- fb: the cells that the code made itself -/
def chkG (N : List Str) (sc : Scope) (fb : Str → Bool) : Tgt → Expr → Bool
  | .nm i, e => match e with
    | .Name x _ => slotB N i x && (isLocal (lookN sc.names x) || (isCell (lookN sc.names x) && fb x))
    | _ => false
  | .tp ts, e => match e with
    | .Tuple es _ _ => chkGs N sc fb ts es
    | _ => false
def chkGs (N : List Str) (sc : Scope) (fb : Str → Bool) : List Tgt → List Expr → Bool
  | [], es => es.isEmpty
  | t :: ts, es => match es with
    | e :: es => notStar e && chkG N sc fb t e && chkGs N sc fb ts es
    | [] => false
end
mutual
def tgtIn (own : List Nat) : Tgt → Bool
  | .nm i => own.contains i
  | .tp ts => tgtsIn own ts
def tgtsIn (own : List Nat) : List Tgt → Bool
  | [] => true
  | t :: ts => tgtIn own t && tgtsIn own ts
end
def isTp : Tgt → Bool
  | .tp _ => true
  | _ => false
mutual
/-- it lays nothing but new frozen things -/
def pureE : IE → Bool
  | .var _ => true
  | .non => true
  | .bl _ => true
  | .int _ => true
  | .str _ => true
  | .glob _ => true
  | .tup es => pureEs es
  | .lst es => pureEs es
  | .op _ a b => pureE a && pureE b
  | .bi _ es => pureEs es
  | .isi _ e => pureE e
  | _ => false
def pureEs : IEs → Bool
  | .nil => true
  | .cons e es => pureE e && pureEs es
end
def isFunK (sc : Scope) : Bool := match sc.kind with
  | .function => true
  | _ => false
/-- whose method is asked: a name, a written list -/
def nmLst : Expr → Bool
  | .Name _ _ => true
  | .List _ _ => true
  | _ => false
/-- as a test: no if-expression -/
def okT : IE → Bool
  | .ife _ _ _ => false
  | .not_ a => okT a
  | .and2 a b => okT a && okT b
  | .or2 a b => okT a && okT b
  | _ => true
/-- the one key that is asked for: a row's first -/
def rowN : Str := "_law_row"
def rowB (scope : Scope) : Bool := isFunK scope && !scope.isCoroutine && !scope.isGenerator && (scope.names.all fun y => match y.2 with | .cell => false | .free => false | _ => true) && isLocal (lookN scope.names rowN)
mutual
def chkE (ck : CK) (N : List Str) (sc : Scope) (i : IE) (e : Expr) : Bool := match i, e with
  | .var i, e => match e with
    | .Name x _ => varB N sc i x
    | _ => false
  | .non, e => match e with
    | .Constant .none _ _ => true
    | _ => false
  | .bl b, e => match e with
    | .Constant (.bool c) _ _ => b == c
    | _ => false
  | .int i, e => match e with
    | .Constant (.int j) _ _ => i == j
    | .UnaryOp .USub (.Constant (.int j) _ _) _ => i == -j
    | _ => false
  | .str s, e => match e with
    | .Constant (.str x) _ _ => eqN s x.cps.toList
    | _ => false
  | .glob k, e => match e with
    | .Name x _ => globB sc x (ck.cn k)
    | _ => false
  | .tup es, e => match e with
    | .Tuple el _ _ => Nat.ble (lenE es) 1000 && chkEs ck N sc es el
    | _ => false
  | .lst es, e => match e with
    | .List el _ => Nat.ble (lenE es) 1000 && chkEs ck N sc es el
    | _ => false
  | .lstH es, e => match e with
    | .List el _ => Nat.ble (lenE es) 1000 && chkEs ck N sc es el
    | _ => false
  | .dct ks vs, e => match ks, vs, e with
    | .nil, .nil, .Dict [] [] _ => true
    | _, _, _ => false
  | .op o a b, e => match e with
    | .Subscript e i _ => (match o with | .idx => true | _ => false) && notSlice i && chkE ck N sc a e && chkE ck N sc b i
    | .BinOp l op r _ => binO o op && chkE ck N sc a l && chkE ck N sc b r
    | .Compare l [op] [r] _ => cmpO o op && notSet r && chkE ck N sc a l && chkE ck N sc b r
    | _ => false
  | .chn o o' a b c, e => match e with
    | .Compare l [op, op'] [m, r] _ => cmpO o op && cmpO o' op' && notSet r && chkE ck N sc a l && chkE ck N sc b m && chkE ck N sc c r
    | _ => false
  | .and2 a b, e => match e with
    | .BoolOp .And (l :: m :: r) pos => chkE ck N sc a l && (match r with
      | [] => chkE ck N sc b m
      | q :: r => chkE ck N sc b (.BoolOp .And (m :: q :: r) pos))
    | _ => false
  | .or2 a b, e => match e with
    | .BoolOp .Or (l :: m :: r) pos => chkE ck N sc a l && (match r with
      | [] => chkE ck N sc b m
      | q :: r => chkE ck N sc b (.BoolOp .Or (m :: q :: r) pos))
    | _ => false
  | .not_ a, e => match e with
    | .UnaryOp .Not e _ => chkE ck N sc a e
    | _ => false
  | .ife c a b, e => match e with
    | .IfExp t x y _ => okT c && chkE ck N sc c t && chkE ck N sc a x && chkE ck N sc b y
    | _ => false
  | .call f es, e => match e with
    | .Call (.Name x _) (e :: args) [] _ => ck.has f && globB sc x (ck.fn f) && chkEs ck N sc es (e :: args)
    | _ => false
  | .bi b es, e => match e with
    | .Call (.Name x _) (e :: args) [] _ => globB sc x (biN b) && chkEs ck N sc es (e :: args)
    | _ => false
  | .isi t a, e => match e with
    | .Call (.Name x _) [e, .Name y _] [] _ => globB sc x "isinstance" && globB sc y (tyS t) && notStar e && chkE ck N sc a e
    | _ => false
  | .slc a lo hi, e => match e with
    | .Subscript e (.Slice l h none _) _ => chkE ck N sc a e && (match l with
      | none => isNonE lo
      | some x => !isNonE lo && chkE ck N sc lo x) && (match h with
      | none => isNonE hi
      | some x => !isNonE hi && chkE ck N sc hi x)
    | _ => false
  | .rev a, e => match e with
    | .Subscript e (.Slice none none (some (.UnaryOp .USub (.Constant (.int 1) _ _) _)) _) _ => chkE ck N sc a e
    | _ => false
  | .lc own t src elt, e => match e with
    | .ListComp e [⟨tg, it, [], 0⟩] scope _ => blkC N sc scope (ownN N own) && chkG N (relR scope sc) (fun x => isCell (lookN scope.names x)) t tg && tgtIn own t && notSet it && chkI ck N sc src tg it && chkE ck N (relR scope sc) elt e
    | _ => false
  | .lcf own t src elt cond, e => match e with
    | .ListComp e [⟨tg, it, [c], 0⟩] scope _ => blkC N sc scope (ownN N own) && chkG N (relR scope sc) (fun x => isCell (lookN scope.names x)) t tg && tgtIn own t && notSet it && chkI ck N sc src tg it && chkE ck N (relR scope sc) elt e && okT cond && chkE ck N (relR scope sc) cond c
    | _ => false
  | .dc own t src k v, e => match e with
    | .DictComp k' v' [⟨tg, it, [], 0⟩] scope _ => blkC N sc scope (ownN N own) && chkG N (relR scope sc) (fun x => isCell (lookN scope.names x)) t tg && tgtIn own t && notSet it && chkI ck N sc src tg it && chkE ck N (relR scope sc) k k' && chkE ck N (relR scope sc) v v'
    | _ => false
  | .skey a, e => match e with
    | .Call (.Name x _) [e] [⟨some kn, .Lambda ⟨[], [⟨r, none, _⟩], none, [], [], none, []⟩ (.Subscript (.Name r' _) (.Constant (.int 0) _ _) _) scope _, _⟩] _ =>
      ck.lam && globB sc x (biN .sorted) && seq kn "key" && seq r rowN && seq r' rowN && rowB scope && notStar e && chkE ck N sc a e
    | _ => false
  | .told f a, e => match e with
    | .Call (.Name x _) [.Lambda ⟨[], [], none, [], [], none, []⟩ body scope _] [] _ => ck.lam && ck.tld f && globB sc x (ck.tn f) && LamX.lamSB sc scope && chkE { ck with lam := false } N scope a body
    | _ => false
  | .bor a, e => pureE a && chkE ck N sc a e
  | .idxO i b, e => match e with
    | .Subscript (.Name x _) j _ => varB N sc i x && notSlice j && chkE ck N sc b j
    | _ => false
  | .x1 o a, e => match o, e with
    | .sset, .Call (.Name x _) [.Call (.Name y _) [u] [] _] [] _ => globB sc x (biN .sorted) && globB sc y "set" && notStar u && chkE ck N sc a u
    | .lset, .Call (.Name x _) [.Call (.Name y _) [u] [] _] [] _ => globB sc x (biN .len) && globB sc y "set" && notStar u && chkE ck N sc a u
    | _, _ => false
  | .x2 o a b, e => match o, e with
    | .index, .Call (.Attribute u m ap) [v] [] cp => seq m "index" && (ap.endLine == cp.line) && nmLst u && notStar v && chkE ck N sc a u && chkE ck N sc b v
    | .zipL, .Call (.Name x _) [.Call (.Name y _) [u, v] [] _] [] _ => globB sc x (biN .list) && globB sc y "zip" && notStar u && notStar v && chkE ck N sc a u && chkE ck N sc b v
    | .kget j hits miss, .Call (.Attribute (.Name x _) m ap) [u, v] [] cp => seq m "get" && (ap.endLine == cp.line) && ck.kd j hits miss && globB sc x (ck.dn j) && notStar u && notStar v && chkE ck N sc a u && chkE ck N sc b v
    | _, _ => false
  | .dct1 i, e => match e with
    | .Dict [some (.Name x _)] [.Constant .none _ _] _ => varB N sc i x
    | _ => false
termination_by structural i
def chkEs (ck : CK) (N : List Str) (sc : Scope) (i : IEs) (es : List Expr) : Bool := match i, es with
  | .nil, es => es.isEmpty
  | .cons i is, es => match es with
    | e :: es => notStar e && chkE ck N sc i e && chkEs ck N sc is es
    | [] => false
termination_by structural i
def chkI (ck : CK) (N : List Str) (sc : Scope) (i : IS) (t e : Expr) : Bool := match i, t, e with
  | .seq a, _, e => chkE ck N sc a e
  | .enum a, t, e => match t, e with
    | .Tuple _ _ _, .Call (.Name x _) [e] [] _ => globB sc x "enumerate" && notStar e && chkE ck N sc a e
    | _, _ => false
  | .zip a b, t, e => match t, e with
    | .Tuple _ _ _, .Call (.Name x _) [e, e'] [] _ => globB sc x "zip" && notStar e && notStar e' && chkE ck N sc a e && chkE ck N sc b e'
    | _, _ => false
  | .range a, _, e => match e with
    | .Call (.Name x _) [e] [] _ => globB sc x "range" && notStar e && chkE ck N sc a e
    | _ => false
  | .own i, _, e => match e with
    | .Name x _ => varB N sc i x
    | _ => false
termination_by structural i
end
theorem chkEs_star {ck : CK} {N : List Str} {sc : Scope} : ∀ (is : IEs) {es : List Expr}, chkEs ck N sc is es = true → es.all notStar = true
  | .nil, [], _ => rfl
  | .nil, _ :: _, h => by simp [chkEs] at h
  | .cons i is, [], h => by simp [chkEs] at h
  | .cons i is, e :: es, h => by
    simp only [chkEs, Bool.and_eq_true] at h
    rw [List.all_cons, h.1.1, chkEs_star is h.2]; rfl
end Ev
namespace Ev
open PySem PySem.Spec PyProof.Rows L2
/-! ### a lambda handed on, exceptions with no context -/
theorem takesN0 {X : Cx} : L2N.Takes X (fun _ _ _ _ => False) := fun _ _ h => by
  obtain ⟨_, _, _, _, _, _, _, _, _, _, _, _, _, _, _, _, z⟩ := h
  exact z.elim
/-- the context of a lambda's body -/
abbrev lamN (X : Cx) (A : Around) (outer : List Env) (s : Shared) (H : Hp) (E : XK) (scope : Scope) (f c' : Addr) : Cx :=
  (LamX.lamCx X A outer s H E scope f c').tr [] fun e s' => wpAny (model X.prog X.w) (A.deeper (LamX.lamEnv X scope s.heap.objs.size f c')) (leaving (LamX.lamEnv X scope s.heap.objs.size f c') e)
    (fun _ s'' => L2N.CX X.prog X.w outer H s E e s'') (fun e' s'' => L2N.CX X.prog X.w outer H s E e' s'') s'
section
variable {X : Cx} {pins : List (Addr × Obj)} {σ : L2.St} {H : Hp} {s : Shared}
/-- the lambda called by the def that got it -/
theorem actN {CXg : CXT} {Eg : XK} {Ng : List Str} {qg : Str} {sg : Scope} {g f c' : Addr} {cdg pm ctv : Value} {params : Arguments} {body : Expr} {scope : Scope} {k i : Nat} {a : Str} {pn : List (Addr × Obj)} {xe : Value → Shared → Prop} {W : WX} {E : XK} {tb : TE} {p1 p2 : Pos}
    (I : Inv X pins σ H s) (L : LamX.LamS X.env.scope scope) (hf : s.heap.get? f = some (PySem.W.kla_obj "<lambda>" (X.env.qual ++ "<lambda>") params body scope (cloFrom X.env.cells scope.names []) pm c' ctv)) (hfn : H f = none) (hfr : f ∉ frs X.stack)
    (hbind : bindArgs (PySem.W.kla_fn "<lambda>" (X.env.qual ++ "<lambda>") params body scope (cloFrom X.env.cells scope.names []) pm (.ref c') ctv) ⟨[], []⟩ = pure [])
    (tk : L2N.Takes ((cxOf CXg X.prog X.w X.K X.mg X.base Ng qg sg g cdg X.A X.stack s H Eg).tr pn xe) W) (hW : ∀ cls d σ' H', E cls d H' → W cls d σ' H') (hr : Room (k + 1) (X.A.deeper (envOfC qg sg s.heap.objs.size g cdg)))
    (hbody : ∀ (A : Around) (outer : List Env) (s : Shared) (H : Hp), Room k (A.deeper (LamX.lamEnv X scope s.heap.objs.size f c')) → PE (lamN X A outer s H E scope f c') body tb)
    (hN : Ng[i]? = some a) (hv : Vis sg a) (hd : (a == ("__debug__" : Str)) = false) (hcd : (a == ("__classdict__" : Str)) = false) :
    PE ((cxOf CXg X.prog X.w X.K X.mg X.base Ng qg sg g cdg X.A X.stack s H Eg).tr pn xe) (.Call (.Name a p1) [] [] p2)
      (fun τ HZ Q => τ[i]? = some (some (.ref f)) ∧ HZ c' = some (LamX.CodeO c' (X.env.qual ++ "<lambda>")) ∧ tb σ HZ Q) := by
  constructor
  intro pz sZ τ HZ Q IZ hh
  obtain ⟨hs, hc, ht⟩ := hh
  have rd := (pe_var (pos := p1) (i := i) hN hv hd hcd).run pz sZ τ HZ (fun v H1 => v = .ref f ∧ H1 = HZ) IZ ⟨.ref f, hs, rfl, rfl⟩
  refine wpAny_Call_Name_kw (thn rd fun u s1 hu => ?_)
  obtain ⟨v, H1, I1, r1, rfl, rfl⟩ := hu
  obtain rfl : u = Value.ref f := r1
  have of1 := I1.base.keep f _ hf hfn hfr (fun z => by cases z)
  refine PySem.W.callWith_F0 ⟨_, _, _, _, of1⟩ ?_
  have un : Un (frs X.stack) [] H H1 s.heap s1.heap := I1.base
  obtain ⟨⟨oc, vs, t, hoc, hdc, hvc⟩, _, _⟩ := I1.hok c' _ hc
  have rc : codeAny (model X.prog X.w) (X.A.deeper (envOfC qg sg s.heap.objs.size g cdg)) (.call (.ref f) ⟨[], []⟩) (CR (L2N.CX X.prog X.w) (envOfC qg sg s.heap.objs.size g cdg :: X.stack) X.prog X.w H1 s1 Q E) s1 := by
    refine PySem.W.kla_callFunE hr.depth of1 rfl L.co L.gen rfl ⟨c', oc, vs, t, rfl, hoc, hdc, hvc⟩ ?_
    rw [hbind]
    refine wpAny_pure (wpAny_newFunctionEnv (fun y hy => (L.own y hy).2) (fun y hy => by cases hy) (fun h₁ hns hsb => ⟨I1.nolimit.fresh _ hsb, ?_⟩) L.kind)
    show codeAny _ _ (.expr body (LamX.lamEnv X scope s1.heap.objs.size f c')) _ _
    have kp : ∀ b o, s1.heap.get? b = some o → h₁.get? b = some o := fun b o e => hsb.extBut b o (Nat.ne_of_lt (Heap.lt_size e)) (Heap.get?_push_of_some _ e)
    have J0 := LamX.lam_start2 (E := E) (f := f) (c' := c') (tk := s1.toks + ([] : List (Str × Value)).length) I L I1.env0 hr.hd un hns kp
    have J := J0.toTry (fun e s' => wpAny (model X.prog X.w) ((X.A.deeper (envOfC qg sg s.heap.objs.size g cdg)).deeper (LamX.lamEnv X scope s1.heap.objs.size f c')) (leaving (LamX.lamEnv X scope s1.heap.objs.size f c') e)
      (fun _ s'' => L2N.CX X.prog X.w (envOfC qg sg s.heap.objs.size g cdg :: X.stack) H1 s1 E e s'') (fun e' s'' => L2N.CX X.prog X.w (envOfC qg sg s.heap.objs.size g cdg :: X.stack) H1 s1 E e' s'') s')
    refine PySem.W.kla_codeExpr (wpAny_mono ((hbody _ _ s1 H1 (hr.deeper _)).run [] _ _ H1 Q J ht) (fun v s' hq => ?_) fun e s' hq => hq)
    obtain ⟨w', H', J', rv, q⟩ := hq
    exact ⟨w', H', J'.os, J'.bare, J'.base, J'.hok, rv, q⟩
  have hx := L2N.passes_call tk hW
  refine wpAny_call (codeAny_mono rc fun r s' hq => ?_)
  cases r with
  | error e => exact hx pz τ H1 s1 e s' I1 hq
  | ok fl =>
    cases fl with
    | ret u => exact I1.after hq
    | _ => exact False.elim hq
end
/-- what a def makes of the lambda's reading -/
def GivesN (X : Cx) (Ng : List Str) (x : Str) (sg : Scope) (g : Addr) (cdg : Value) (bg : List Stmt) (a : Str) (q : Str) (TT : (XK → Hp → VK → Prop) → Hp → VK → Prop) : Prop :=
  ∀ (f c' : Addr) (s : Shared) (H : Hp) (Q : VK) (tl : XK → Hp → VK → Prop),
    (∀ (W : WX) (pn : List (Addr × Obj)) (xe : Value → Shared → Prop) (E : XK) (p1 p2 : Pos), L2N.Takes ((cxOf C8.CX0 X.prog X.w X.K X.mg X.base Ng x sg g cdg X.A X.stack s H C8.E0).tr pn xe) W → (∀ cls d σ' H', E cls d H' → W cls d σ' H') →
      PE ((cxOf C8.CX0 X.prog X.w X.K X.mg X.base Ng x sg g cdg X.A X.stack s H C8.E0).tr pn xe) (.Call (.Name a p1) [] [] p2) (fun τ HZ Q => τ[0]? = some (some (.ref f)) ∧ HZ c' = some (LamX.CodeO c' q) ∧ tl E HZ Q)) →
    H c' = some (LamX.CodeO c' q) → TT tl H Q →
    ∃ t, PSs (cxOf C8.CX0 X.prog X.w X.K X.mg X.base Ng x sg g cdg X.A X.stack s H C8.E0).nox bg t ∧ t { nx := fun _ H' => Q .non H', rt := Q } (L2.start Ng [.ref f]) H
section
variable {X : Cx}
theorem lamcallN {T : List (Addr × Str)} {TT : (XK → Hp → VK → Prop) → Hp → VK → Prop} {x a : Str} {g c P : Addr} {k : Nat} {pg : Arguments} {bg : List Stmt} {sg : Scope} {dV kV doc pm cdv ct oc : Value} {an od : Option Addr} {osl : Array (Option Value)} {Ng : List Str}
    {params : Arguments} {body : Expr} {scope : Scope} {t : XK → TE} {p lpos pos : Pos} (hg : Gl X x) (hm : X.mg x = some (.ref g)) (hk : PySem.W.keepIn X.K (.ref g) = true)
    (lk : X.K.lookup g = some ⟨oc, od, .func (PySem.W.fnOf x x pg bg sg dV kV doc pm an cdv ct), osl⟩) (hcg : PySem.W.codeIn X.K cdv x = true) (hb : L2.Binds X.K (PySem.W.fnOf x x pg bg sg dV kV doc pm an cdv ct) [a] []) (Sg : FnScope Ng [a] sg) (hNg : Ng[0]? = some a) (hva : Vis sg a)
    (hG : GivesN X Ng x sg g cdv bg a (X.env.qual ++ "<lambda>") TT)
    (TB : LamX.TabB X.base X.mg c P) (hcode : X.env.code = .ref c) (hmT : (P, X.env.qual ++ "<lambda>") ∈ T) (hu : ∀ p ∈ T, p.1 = P → p.2 = X.env.qual ++ "<lambda>") (hr : Room (k + 2) X.A) (L : LamX.LamS X.env.scope scope) (hdef : defaultsOf params X.env = ([], []))
    (hbind : ∀ (q : Str) (cl : List (Str × Addr)) (pm cv ctv : Value), bindArgs (PySem.W.kla_fn "<lambda>" q params body scope cl pm cv ctv) ⟨[], []⟩ = pure [])
    (hbody : ∀ (A : Around) (outer : List Env) (s : Shared) (H : Hp) (E : XK) (f c' : Addr), Room k (A.deeper (LamX.lamEnv X scope s.heap.objs.size f c')) → PE (lamN X A outer s H E scope f c') body (t E))
    (hdb : (x == ("__debug__" : Str)) = false) (hd : (a == ("__debug__" : Str)) = false) (hcd : (a == ("__classdict__" : Str)) = false) :
    PE X (.Call (.Name x p) [.Lambda params body scope lpos] [] pos) (LamX.tLam T TT t) := by
  constructor
  intro pins s σ H Q I hh
  obtain ⟨hT, h⟩ := hh
  refine wpAny_Call_Name_kw (ld_glob I hg hm ?_ hdb)
  refine PySem.W.callWith_K (h₀ := X.base) I.ok.mod.kin hk ?_ (by rfl) (by rfl)
  show wpAny _ _ (spliced ((false, eval (.Lambda params body scope lpos) X.env) :: backTo pos (starEach [] X.env))) _ _ s
  refine Calls.spliced_cons (LamX.lam_make2 I TB hcode hmT hu hT hdef (L.has I.ok) fun f c' pm' ctv H1 s' I1 eN T1 hf hfn hfr hco => ?_)
  refine Calls.spliced_nil ⟨I1.kIn, ?_⟩
  have rc : codeAny (model X.prog X.w) X.A (.call (.ref g) ⟨[.ref f], []⟩) (CR C8.CX0 X.stack X.prog X.w H1 s' Q C8.E0) s' :=
    LamX.run_ofS (N := Ng) (ps := [a]) (us := [.ref f]) (vs := [.ref f]) lk hcg Sg hr I1.env0 (hb s' [.ref f] I1.kIn rfl) (.cons rfl .nil) rfl fun hr' => by
      obtain ⟨t', ht', hq'⟩ := hG f c' s' H1 Q (fun E H' Q' => t E σ H' Q') (fun W pn xe E p1 p2 tk hW => actN (i := 0) I1 L hf hfn hfr (hbind _ _ _ _ _) tk hW hr' (fun A outer s H hr2 => hbody A outer s H E f c' hr2) hNg hva hd hcd) hco (h H1 eN T1)
      exact ⟨t', ht'.nox, hq'⟩
  refine wpAny_call (codeAny_mono rc fun r s2 hq => ?_)
  cases r with
  | error e => exact (show False from hq).elim
  | ok fl =>
    cases fl with
    | ret u => exact I1.after hq
    | _ => exact False.elim hq
end
end Ev
namespace Ev
open PySem PySem.Spec PyProof.Rows L2
/-! ### readings by the evaluator -/
section
variable (G : GC) (w0 : Wd) (H0 : Hp) (W : WX)
/-- what a result asks -/
def Yl {α β : Type} (rel : Wd → Hp → α → β → Prop) (σ : L2.St) (w : Wd) (H : Hp) (r : R α) (Q : β → Hp → Prop) : Prop := match r with
  | .ok a st' => ∀ w' H' b, Ext w H w' H' → WRel G w' H' st' → rel w' H' a b → Q b H'
  | .exc c st' => ∀ w' H', Ext w H w' H' → WRel G w' H' st' → W (.ref (G.cls c)) none σ H'
  | .bad => False
def TT_ {α β : Type} (rel : Wd → Hp → α → β → Prop) (ev : EvEnv → HSt → R α) : L2.St → Hp → (β → Hp → Prop) → Prop := fun σ H Q =>
  ∃ env w st, FR G w0 H0 env σ w H st ∧ Yl G W rel σ w H (ev env st) Q
abbrev TEv (ev : EvEnv → HSt → R D) : TE := TT_ G w0 H0 W (Rep G) ev
abbrev TAv (ev : EvEnv → HSt → R (List D)) : TA := TT_ G w0 H0 W (RepAll G) ev
def toB (r : R D) : R Bool := r.bind fun d st => match d with
  | .bl b => .ok b st
  | _ => .bad
abbrev TBv (ev : EvEnv → HSt → R D) : TT := TT_ G w0 H0 W (fun _ _ (b : Bool) c => b = c) (fun env st => toB (ev env st))
end
section
variable {G : GC} {w0 : Wd} {H0 : Hp} {W : WX} {α β γ δ : Type} {rel : Wd → Hp → α → β → Prop} {rel2 : Wd → Hp → γ → δ → Prop} {env : EvEnv} {σ : L2.St} {w w1 : Wd} {H H1 : Hp} {st st1 : HSt}
theorem Yl.ext {r : R α} {Q : β → Hp → Prop} (y : Yl G W rel σ w H r Q) (e : Ext w H w1 H1) : Yl G W rel σ w1 H1 r Q := by
  cases r with
  | ok a s => exact fun w' H' b x wr h => y w' H' b (e.trans x) wr h
  | exc c s => exact fun w' H' x wr => y w' H' (e.trans x) wr
  | bad => exact y
theorem T.seq {ea : EvEnv → HSt → R α} {f : α → HSt → R γ} {Q2 : δ → Hp → Prop} {P : β → Hp → Prop} (fr : FR G w0 H0 env σ w H st) (y : Yl G W rel2 σ w H ((ea env st).bind f) Q2)
    (k : ∀ a b w1 H1 st1, ea env st = .ok a st1 → FR G w0 H0 env σ w1 H1 st1 → Ext w H w1 H1 → rel w1 H1 a b → Yl G W rel2 σ w1 H1 (f a st1) Q2 → P b H1) : TT_ G w0 H0 W rel ea σ H P := by
  refine ⟨env, w, st, fr, ?_⟩
  cases h : ea env st with
  | ok a s =>
    rw [h] at y
    exact fun w' H' b x wr r => k a b w' H' s h (fr.step x wr) x r (Yl.ext (r := f a s) y x)
  | exc c s =>
    rw [h] at y
    exact y
  | bad =>
    rw [h] at y
    exact y
theorem T.tail {ea : EvEnv → HSt → R α} {Q : β → Hp → Prop} (fr : FR G w0 H0 env σ w H st) (y : Yl G W rel σ w H (ea env st) Q) : TT_ G w0 H0 W rel ea σ H Q := ⟨env, w, st, fr, y⟩
theorem Yl.ok {a : α} {b : β} {Q : β → Hp → Prop} (y : Yl G W rel σ w H (.ok a st) Q) (wr : WRel G w H st) (r : rel w H a b) : Q b H := y w H b .refl wr r
theorem Yl.pext {a : α} {b : β} {Q : β → Hp → Prop} (y : Yl G W rel σ w H (.ok a st) Q) (wr : WRel G w H st) (p : PExt w H w1 H1) (r : rel w1 H1 a b) : Q b H1 := y w1 H1 b p.ext (p.wrel wr) r
/-- the pure operations' wish -/
theorem Yl.py {d : D} {Q : VK} (y : Yl G W (Rep G) σ w H (.ok d st) Q) (wr : WRel G w H st) : PY G w H d Q := fun w' H' v p r => y w' H' v p.ext (p.wrel wr) r
theorem Yl.lift {o : Option D} {Q : VK} (y : Yl G W (Rep G) σ w H (liftO o st) Q) (wr : WRel G w H st) : ∃ d, o = some d ∧ PY G w H d Q := by
  cases o with
  | none => exact (show False from y).elim
  | some d => exact ⟨d, rfl, Yl.py y wr⟩
end
theorem PE.imp {X : Cx} {e : Expr} {t t' : TE} (h : PE X e t) (k : ∀ σ H Q, t' σ H Q → t σ H Q) : PE X e t' := ⟨fun pins s σ H Q I q => h.run pins s σ H Q I (k σ H Q q)⟩
theorem PT.imp {X : Cx} {e : Expr} {t t' : TT} (h : PT X e t) (k : ∀ σ H Q, t' σ H Q → t σ H Q) : PT X e t' := ⟨fun pins s σ H Q I q => h.run pins s σ H Q I (k σ H Q q)⟩
theorem PA.imp {X : Cx} {e : List Expr} {t t' : TA} (h : PA X e t) (k : ∀ σ H Q, t' σ H Q → t σ H Q) : PA X e t' := ⟨fun pos pins s σ H Q I q => h.run pos pins s σ H Q I (k σ H Q q)⟩
theorem PI.imp {X : Cx} {tg e : Expr} {t t' : TI} (h : PI X tg e t) (k : ∀ σ H Q, t' σ H Q → t σ H Q) : PI X tg e t' := ⟨fun pins s σ H Q I q => h.run pins s σ H Q I (k σ H Q q)⟩
theorem PSs.imp {X : Cx} {e : List Stmt} {t t' : TS} (h : PSs X e t) (k : ∀ D σ H, t' D σ H → t D σ H) : PSs X e t' := ⟨fun pins s σ H D I q => h.run pins s σ H D I (k D σ H q)⟩
theorem PS.imp {X : Cx} {e : Stmt} {t t' : TS} (h : PS X e t) (k : ∀ D σ H, t' D σ H → t D σ H) : PS X e t' := ⟨fun pins s σ H D I q => h.run pins s σ H D I (k D σ H q)⟩

/-! ### what the soundness leans on -/
/-- a call's promise by the evaluator -/
def YlF (G : GC) (w : Wd) (H : Hp) (r : R D) (Q : VK) (E : XK) : Prop := match r with
  | .ok d st' => ∀ w' H' v, Ext w H w' H' → WRel G w' H' st' → Rep G w' H' d v → Q v H'
  | .exc c st' => ∀ w' H', Ext w H w' H' → WRel G w' H' st' → E (.ref (G.cls c)) none H'
  | .bad => False
def spC (G : GC) (C : CT) (f n : Nat) : Sp := fun vs H Q E => ∃ w st ds, WRel G w H st ∧ RepAll G w H ds vs ∧ vs.length = n ∧ YlF G w H (C f ds st) Q E
/-- the defs that may be called -/
structure FnAt (X : Cx) (g : GN) (C : CT) (k : Nat) (name : Str) (f : Nat) : Prop where
  ex : ∃ (a : Addr) (fd : FuncData) (ps : List Str), X.mg name = some (.ref a) ∧ PySem.W.keepIn X.K (.ref a) = true ∧ Binds X.K fd ps [] ∧ (∀ ds st, C f ds st ≠ .bad → ds.length = ps.length) ∧ FnOk X.prog X.w X.K X.mg X.base (L2N.CX X.prog X.w) k a fd ps (spC (Gx X g) C f ps.length)
/-- what a told def makes of a reading: try: return a() / except .. -/
def TTd (G : GC) (td : Nat → Option D) : (XK → Hp → VK → Prop) → Hp → VK → Prop := fun tl H Q =>
  tl (fun cls dd H' => dd = none ∧ ∃ c d w st, cls = .ref (G.cls c) ∧ td c = some d ∧ WRel G w H' st ∧ PY G w H' d Q) H Q
structure ToldAt (X : Cx) (g : GN) (td : Nat → Option D) (x : Str) : Prop where
  ex : ∃ (f : Addr) (pg : Arguments) (bg : List Stmt) (sg : Scope) (dV kV doc pm cdv ct oc : Value) (an od : Option Addr) (osl : Array (Option Value)) (Ng : List Str) (a : Str), X.mg x = some (.ref f) ∧ PySem.W.keepIn X.K (.ref f) = true ∧
    X.K.lookup f = some ⟨oc, od, .func (PySem.W.fnOf x x pg bg sg dV kV doc pm an cdv ct), osl⟩ ∧ PySem.W.codeIn X.K cdv x = true ∧ Binds X.K (PySem.W.fnOf x x pg bg sg dV kV doc pm an cdv ct) [a] [] ∧ FnScope Ng [a] sg ∧ Ng[0]? = some a ∧ Vis sg a ∧ plainName a = true ∧
    ∀ q, GivesN X Ng x sg f cdv bg a q (TTd (Gx X g) td)
/-- what a lambda asks -/
structure LamOk (X : Cx) (g : GN) (ck : CK) (k : Nat) : Prop where
  room : Room (k + 2) X.A
  tab : ∃ c P, LamX.TabB X.base X.mg c P ∧ X.env.code = .ref c ∧ (P, X.env.qual ++ "<lambda>") ∈ g.T ∧ ∀ p ∈ g.T, p.1 = P → p.2 = X.env.qual ++ "<lambda>"
  told : ∀ f, ck.tld f = true → ToldAt X g (g.td f) (ck.tn f)
/-- a dict of texts and whole numbers that the module holds, some of its keys, some that it lacks -/
def KdAt (K : PySem.W.Frag) (w : World) (mg : Str → Option Value) (x : Str) (hits : List (List Nat × Int)) (miss : List (List Nat)) : Prop :=
  ∃ (d : Addr) (es : Array DictEntry) (n : Nat), mg x = some (.ref d) ∧ KDict K w d es n ∧ (∀ p ∈ hits, ∃ u, PySem.W.nsIn K d ⟨p.1.toArray⟩ = some (some u) ∧ RelV (.int p.2) u) ∧ ∀ z ∈ miss, PySem.W.nsIn K d ⟨z.toArray⟩ = some none
/-- the module's names -/
structure Mg (X : Cx) (g : GN) (ck : CK) (con : Nat → Option D) : Prop where
  bi : ∀ b : BI, X.mg (biN b) = none
  isi : X.mg "isinstance" = none
  enum : X.mg "enumerate" = none
  zip : X.mg "zip" = none
  range : X.mg "range" = none
  bool : X.mg "bool" = none
  con : ∀ (k : Nat) (d : D), con k = some d → ∃ v u, X.mg (ck.cn k) = some u ∧ RelV v u ∧ ∀ w H, Rep (Gx X g) w H d v
  kd : ∀ j hits miss, ck.kd j hits miss = true → KdAt X.K X.w X.mg (ck.dn j) hits miss
  set_ : X.mg "set" = none
structure Good (X : Cx) (g : GN) (ck : CK) (con : Nat → Option D) (C : CT) (N : List Str) (sc : Scope) (W : WX) (k : Nat) : Prop where
  hN : X.N = N
  nd : N.Nodup
  hs : X.env.scope = sc
  calm : X.calm = true
  room : Room k X.A
  tk : L2N.Takes X W
  mg : Mg X g ck con
  fn : ∀ f, ck.has f = true → FnAt X g C k (ck.fn f) f
  lamOk : ck.lam = true → LamOk X g ck k
section
variable {X : Cx} {g : GN} {ck : CK} {con : Nat → Option D} {C : CT} {N : List Str} {sc : Scope} {W : WX} {k : Nat}
theorem slotB_ok {i : Nat} {x : Str} (h : slotB N i x = true) : N[i]? = some x := by
  unfold slotB at h
  split at h
  · rename_i y e
    rw [e, seq_eq h]
  · cases h
theorem plain_ok {x : Str} (h : plainName x = true) : (x == ("__debug__" : Str)) = false ∧ (x == ("__classdict__" : Str)) = false := by
  unfold plainName at h
  simp only [Bool.and_eq_true, Bool.not_eq_true'] at h
  refine ⟨?_, ?_⟩
  · rw [beq_eq_false_iff_ne]
    rintro rfl
    have q := h.1
    have : seq ("__debug__" : Str) ("__debug__" : Str) = true := by unfold seq; rw [eqN_iff]
    rw [this] at q; cases q
  · rw [beq_eq_false_iff_ne]
    rintro rfl
    have q := h.2
    have : seq ("__classdict__" : Str) ("__classdict__" : Str) = true := by unfold seq; rw [eqN_iff]
    rw [this] at q; cases q
theorem Good.vis (g' : Good X g ck con C N sc W k) {x : Str} (h : isVis (lookN sc.names x) = true) : Vis X.env.scope x := by
  rw [lookN_eq] at h
  unfold Vis
  rw [g'.hs]
  cases e : sc.names.lookup x with
  | none => rw [e] at h; cases h
  | some q => rw [e] at h; cases q <;> first | exact .inl rfl | exact .inr (.inl rfl) | exact .inr (.inr rfl) | cases h
theorem Good.loc (g' : Good X g ck con C N sc W k) {x : Str} (h : isLoc (lookN sc.names x) = true) : L2.Loc X.env.scope x := by
  rw [lookN_eq] at h
  unfold L2.Loc
  rw [g'.hs]
  cases e : sc.names.lookup x with
  | none => rw [e] at h; cases h
  | some q => rw [e] at h; cases q <;> first | exact .inl rfl | exact .inr rfl | cases h
theorem Good.gl (g' : Good X g ck con C N sc W k) {x : Str} (h : isGlob (lookN sc.names x) = true) : Gl X x := by
  rw [lookN_eq] at h
  unfold Gl Env.kindOf
  rw [g'.hs]
  cases e : sc.names.lookup x with
  | none => rw [e] at h; cases h
  | some q => rw [e] at h; cases q <;> first | rfl | cases h
theorem globB_ok {x y : Str} (h : globB sc x y = true) : x = y ∧ isGlob (lookN sc.names x) = true ∧ plainName x = true := by
  unfold globB at h
  simp only [Bool.and_eq_true] at h
  exact ⟨seq_eq h.1.1, h.1.2, h.2⟩
theorem star_ok {e : Expr} (h : notStar e = true) (es : List Expr) (env : Env) : starEach (e :: es) env = (false, eval e env) :: starEach es env := by
  cases e <;> first | rfl | cases h
theorem back_ok (pos : Pos) (env : Env) : ∀ es : List Expr, es.all notStar = true → (backTo pos (starEach es env)).any (·.1) = false
  | [], _ => rfl
  | e :: es, h => by
    rw [List.all_cons, Bool.and_eq_true] at h
    rw [star_ok h.1]
    show (false || (backTo pos (starEach es env)).any (·.1)) = false
    rw [back_ok pos env es h.2]; rfl
end
end Ev
namespace Ev
open PySem PySem.Spec PyProof.Rows L2
/-! ### the rules one by one -/
section
variable {G : GC} {w0 : Wd} {H0 : Hp} {env : EvEnv} {σ : L2.St} {w w1 : Wd} {H H1 : Hp} {st st1 : HSt}
/-- a new handle -/
theorem WRel.newH {p : Addr} {ds : List D} {vs : List V} (wr : WRel G w H st) (hp : H p = none) (r : RepAll G w H ds vs) :
    Ext w H ⟨w.F, w.L ++ [p]⟩ (upd H p (.lst vs)) ∧ WRel G ⟨w.F, w.L ++ [p]⟩ (upd H p (.lst vs)) (st ++ [.lst ds]) := by
  have le : Le w H ⟨w.F, w.L ++ [p]⟩ (upd H p (.lst vs)) := by
    refine ⟨fun _ h => h, fun a h => ?_, fun n a h => ?_⟩
    · have : a ≠ p := fun z => wr.fz a h (by rw [z]; exact hp)
      rw [upd_ne this]
    · show (w.L ++ [p])[n]? = some a
      rw [List.getElem?_append_left (List.getElem?_eq_some_iff.mp h).1]; exact h
  have notin : p ∉ w.L := fun z => wr.Ltrk z hp
  refine ⟨⟨fun _ h => h, le.L, fun a o h _ _ => by rw [upd_ne (ne_of_none h hp)]; exact h, fun _ h => .inl h, fun a h => ?_, fun a o h n => ⟨o, by rw [upd_ne (ne_of_none h hp)]; exact h, n⟩⟩, ?_, fun a h hf => ?_, ?_, ?_, fun n hd h => ?_, fun a o h e => wr.nt a o h (by rw [← le.eq a h]; exact e), tabs_new wr.tb hp⟩
  · rcases List.mem_append.mp h with h | h
    · exact .inl h
    · rw [List.mem_singleton.mp h]; exact .inr (.of hp)
  · intro a h
    have : a ≠ p := fun z => wr.fz a h (by rw [z]; exact hp)
    rw [upd_ne this]; exact wr.fz a h
  · rcases List.mem_append.mp h with h | h
    · exact wr.sep a h hf
    · rw [List.mem_singleton.mp h] at hf; exact wr.fz p hf hp
  · rw [List.nodup_append]
    refine ⟨wr.nd, by simp, fun a ha b hb => ?_⟩
    rw [List.mem_singleton.mp hb]
    rintro rfl
    exact notin ha
  · show (w.L ++ [p]).length = _
    rw [List.length_append, List.length_append, wr.len]; rfl
  · by_cases hn : n < st.length
    · rw [List.getElem?_append_left hn] at h
      obtain ⟨a, e, q⟩ := wr.at_ n hd h
      refine ⟨a, le.L _ _ e, q.mono le ?_⟩
      rw [upd_ne (fun z => by rw [z] at e; exact notin (List.mem_of_getElem? e))]
    · rw [List.getElem?_append_right (by omega)] at h
      have hz : n - st.length = 0 := by
        cases q : n - st.length with
        | zero => rfl
        | succ m => rw [q] at h; simp at h
      rw [hz] at h
      simp at h
      subst h
      refine ⟨p, ?_, vs, upd_same, r.mono le⟩
      show (w.L ++ [p])[n]? = some p
      rw [List.getElem?_append_right (by rw [wr.len]; omega), wr.len, hz]
      rfl
theorem FR.val (f : FR G w0 H0 env σ w H st) {i : Nat} {d : D} (h : env[i]? = some (some (false, d))) : ∃ v, σ[i]? = some (some v) ∧ Rep G w H d v := f.sl i _ h
end
section
variable {con : Nat → Option D} {C : CT} {TD : Nat → Nat → Option D}
theorem evEs_len {env : EvEnv} : ∀ (es : IEs) {st st' : HSt} {ds : List D}, evEs con C TD env es st = .ok ds st' → ds.length = lenE es
  | .nil, _, _, _, h => by cases h; rfl
  | .cons e es, st, st', ds, h => by
    unfold evEs at h
    cases q : evE con C TD env e st with
    | ok a s =>
      rw [q] at h
      simp only [R.bind_ok] at h
      cases q2 : evEs con C TD env es s with
      | ok b s2 =>
        rw [q2] at h
        simp only [R.bind_ok] at h
        cases h
        rw [List.length_cons, evEs_len es q2]; rfl
      | exc c s2 => rw [q2] at h; cases h
      | bad => rw [q2] at h; cases h
    | exc c s => rw [q] at h; cases h
    | bad => rw [q] at h; cases h
end
section
variable {X : Cx} {g : GN} {ck : CK} {con : Nat → Option D} {C : CT} {N : List Str} {sc : Scope} {W : WX} {k : Nat} {w0 : Wd} {H0 : Hp} (gd : Good X g ck con C N sc W k)
variable {ea eb ec : EvEnv → HSt → R D} {a b c e : Expr}
theorem Good.u64 (gd : Good X g ck con C N sc W k) : X.A.units + 65 < cLine := by
  have := gd.room.un
  omega
theorem r_var (gd : Good X g ck con C N sc W k) {i : Nat} {x : Str} {pos : Pos} (h : varB N sc i x = true) : PE X (.Name x pos) (TEv (Gx X g) w0 H0 W <| fun env st => match env[i]? with | some (some (false, d)) => .ok d st | _ => .bad) := by
  unfold varB at h
  simp only [Bool.and_eq_true] at h
  obtain ⟨p1, p2⟩ := plain_ok h.2
  refine PE.imp (pe_var (i := i) (by rw [gd.hN]; exact slotB_ok h.1.1) (gd.vis h.1.2) p1 p2) fun σ H Q ⟨env, w, st, fr, y⟩ => ?_
  dsimp only at y
  cases q : env[i]? with
  | none => rw [q] at y; exact y.elim
  | some s =>
    rw [q] at y
    match s, y, q with
    | some (false, d), y, q =>
      obtain ⟨v, e, r⟩ := fr.val q
      exact ⟨v, e, Yl.ok y fr.wr r⟩
    | some (true, d), y, q => exact y.elim
    | none, y, q => exact y.elim
theorem r_const {v : V} {d : D} (h : PE X e (tC v)) (r : ∀ w H, Rep (Gx X g) w H d v) : PE X e (TEv (Gx X g) w0 H0 W <| fun env st => .ok d st) :=
  PE.imp h fun σ H Q ⟨env, w, st, fr, y⟩ => Yl.ok (a := d) y fr.wr (r w H)
theorem r_tup {es : List Expr} {ev : EvEnv → HSt → R (List D)} {pos : Pos} {j : Nat} (h : PA X es (TAv (Gx X g) w0 H0 W <| ev)) (hl : ∀ env st ds st', ev env st = .ok ds st' → ds.length ≤ 1000) : PE X (.Tuple es j pos) (TEv (Gx X g) w0 H0 W <| fun env st => (ev env st).bind fun ds st => .ok (.tup ds) st) := by
  refine PE.imp (pe_tupF h) fun σ H Q ⟨env, w, st, fr, y⟩ => T.seq fr y fun ds vs w1 H1 st1 he fr1 _ r y1 => ⟨?_, fun p o hp ho => ?_⟩
  · rw [← r.length, sizeLine_eq]; have := hl _ _ _ _ he; omega
  · exact (Yl.py y1 fr1.wr).tup fr1.wr r p o hp ho
theorem r_lst {es : List Expr} {ev : EvEnv → HSt → R (List D)} {pos : Pos} (h : PA X es (TAv (Gx X g) w0 H0 W <| ev)) (hl : ∀ env st ds st', ev env st = .ok ds st' → ds.length ≤ 1000) : PE X (.List es pos) (TEv (Gx X g) w0 H0 W <| fun env st => (ev env st).bind fun ds st => .ok (.lst ds) st) := by
  refine PE.imp (pe_lst h) fun σ H Q ⟨env, w, st, fr, y⟩ => T.seq fr y fun ds vs w1 H1 st1 he fr1 _ r y1 => ⟨?_, fun p hp => ?_⟩
  · rw [← r.length, sizeLine_eq]; have := hl _ _ _ _ he; omega
  · exact (Yl.py y1 fr1.wr).lst fr1.wr r p hp
theorem r_lstH {es : List Expr} {ev : EvEnv → HSt → R (List D)} {pos : Pos} (h : PA X es (TAv (Gx X g) w0 H0 W <| ev)) (hl : ∀ env st ds st', ev env st = .ok ds st' → ds.length ≤ 1000) :
    PE X (.List es pos) (TEv (Gx X g) w0 H0 W <| fun env st => (ev env st).bind fun ds st => .ok (.hnd st.length) (st ++ [.lst ds])) := by
  refine PE.imp (pe_lst h) fun σ H Q ⟨env, w, st, fr, y⟩ => T.seq fr y fun ds vs w1 H1 st1 he fr1 _ r y1 => ⟨?_, fun p hp => ?_⟩
  · rw [← r.length, sizeLine_eq]; have := hl _ _ _ _ he; omega
  · obtain ⟨x1, x2⟩ := fr1.wr.newH hp r
    refine y1 _ _ _ x1 x2 (.hnd ?_)
    show (w1.L ++ [p])[st1.length]? = some p
    rw [← fr1.wr.len, List.getElem?_append_right (Nat.le_refl _), Nat.sub_self]; rfl
/-- two values, an operation -/
theorem seq2 {f : HSt → D → D → Option D} {σ : L2.St} {H : Hp} {Q : VK} (h : (TEv (Gx X g) w0 H0 W <| fun env st => (ea env st).bind fun x st => (eb env st).bind fun y st => liftO (f st x y) st) σ H Q) :
    (TEv (Gx X g) w0 H0 W <| ea) σ H fun x H1 => (TEv (Gx X g) w0 H0 W <| eb) σ H1 fun y H2 => rP2 (Gx X g) f x y H2 Q := by
  obtain ⟨env, w, st, fr, y⟩ := h
  refine T.seq fr y fun d1 v1 w1 H1 st1 _ fr1 _ r1 y1 => ?_
  refine T.seq fr1 y1 fun d2 v2 w2 H2 st2 _ fr2 x2 r2 y2 => ?_
  obtain ⟨d, e, p⟩ := Yl.lift y2 fr2.wr
  exact ⟨w2, st2, d1, d2, d, fr2.wr, r1.mono (x2.le fr1.wr), r2, e, p⟩
theorem bin_r {o : OP} {op : Operator} (ho : binO o op = true) : OpR X (binaryOp op) (rP2 (Gx X g) fun st x y => op2 st o x y) := by
  cases o <;> cases op <;> first | exact absurd ho (by decide) | exact o_add | exact o_sub | exact o_mul | exact o_fdiv | exact o_mod | exact o_pow
theorem plainIx_ok {b : Expr} (hn : notSlice b = true) : PlainIx b := fun o i => by cases b <;> first | rfl | cases hn
theorem r_bin {o : OP} {op : Operator} {pos : Pos} (ho : binO o op = true) (ha : PE X a (TEv (Gx X g) w0 H0 W <| ea)) (hb : PE X b (TEv (Gx X g) w0 H0 W <| eb)) :
    PE X (.BinOp a op b pos) (TEv (Gx X g) w0 H0 W <| fun env st => (ea env st).bind fun x st => (eb env st).bind fun y st => liftO (op2 st o x y) st) := by
  have hr : OpR X (binaryOp op) (rP2 (Gx X g) fun st x y => op2 st o x y) := by
    cases o <;> cases op <;> first | exact absurd ho (by decide) | exact o_add | exact o_sub | exact o_mul | exact o_fdiv | exact o_mod | exact o_pow
  exact PE.imp (pe_op hr ha hb) fun σ H Q h => seq2 h
theorem cmp_r {o : OP} {op : CmpOp} (gd : Good X g ck con C N sc W k) (ho : cmpO o op = true) : OpR X (compareOp op) (rP2 (Gx X g) fun st x y => op2 st o x y) := by
  have h1 := gd.u64
  cases o <;> cases op <;> first | exact absurd ho (by decide) | skip
  · exact o_eq (by omega)
  · exact o_ne (by omega)
  · exact o_lt
  · exact o_le
  · exact o_gt
  · exact o_ge
  · exact o_is
  · exact o_isnot
  · exact o_in h1
  · exact o_notin h1
theorem behind_ok {op : CmpOp} (h : notSet b = true) : behindInMarks op b = false := by
  cases b <;> first | rfl | cases h
theorem r_cmp {o : OP} {op : CmpOp} {pos : Pos} (gd : Good X g ck con C N sc W k) (ho : cmpO o op = true) (hn : notSet b = true) (ha : PE X a (TEv (Gx X g) w0 H0 W <| ea)) (hb : PE X b (TEv (Gx X g) w0 H0 W <| eb)) :
    PE X (.Compare a [op] [b] pos) (TEv (Gx X g) w0 H0 W <| fun env st => (ea env st).bind fun x st => (eb env st).bind fun y st => liftO (op2 st o x y) st) :=
  PE.imp (pe_cmpR (cmp_r gd ho) ha hb (behind_ok hn)) fun σ H Q h => seq2 h
theorem r_ix {pos : Pos} (gd : Good X g ck con C N sc W k) (hn : notSlice b = true) (ha : PE X a (TEv (Gx X g) w0 H0 W <| ea)) (hb : PE X b (TEv (Gx X g) w0 H0 W <| eb)) :
    PE X (.Subscript a b pos) (TEv (Gx X g) w0 H0 W <| fun env st => (ea env st).bind fun x st => (eb env st).bind fun y st => liftO (op2 st .idx x y) st) := by
  have h1 := gd.u64
  have hs : PlainIx b := fun o i => by cases b <;> first | rfl | cases hn
  exact PE.imp (pe_ix (o_idx (by omega)) ha hb hs) fun σ H Q h => seq2 (f := fun st x y => idxD st x y) h
theorem r_chn {o o' : OP} {op op' : CmpOp} {pos : Pos} (gd : Good X g ck con C N sc W k) (ho : cmpO o op = true) (ho' : cmpO o' op' = true) (hn : notSet c = true) (ha : PE X a (TEv (Gx X g) w0 H0 W <| ea)) (hb : PE X b (TEv (Gx X g) w0 H0 W <| eb)) (hc : PE X c (TEv (Gx X g) w0 H0 W <| ec)) :
    PE X (.Compare a [op, op'] [b, c] pos) (TEv (Gx X g) w0 H0 W <| fun env st => (ea env st).bind fun x st => (eb env st).bind fun y st => match op2 st o x y with
      | some (.bl true) => (ec env st).bind fun z st => liftO (op2 st o' y z) st
      | some (.bl false) => .ok (.bl false) st
      | _ => .bad) := by
  refine PE.imp (pe_chain (cmp_r gd ho) (cmp_r gd ho') ha hb hc (by show behindInMarks op' c = false; exact behind_ok hn)) fun σ H Q ⟨env, w, st, fr, y⟩ => ?_
  refine T.seq fr y fun d1 v1 w1 H1 st1 _ fr1 _ r1 y1 => ?_
  refine T.seq fr1 y1 fun d2 v2 w2 H2 st2 _ fr2 x2 r2 y2 => ?_
  cases q : op2 st2 o d1 d2 with
  | none => rw [q] at y2; exact y2.elim
  | some r =>
    rw [q] at y2
    cases r with
    | bl t =>
      refine ⟨w2, st2, d1, d2, .bl t, fr2.wr, r1.mono (x2.le fr1.wr), r2, q, fun w3 H3 v3 p3 r3 => ?_⟩
      cases rep_bl r3
      refine ⟨t, rfl, ?_⟩
      have fr3 := fr2.step p3.ext (p3.wrel fr2.wr)
      cases t with
      | true =>
        rw [if_pos rfl]
        refine T.seq fr3 (Yl.ext y2 p3.ext) fun d4 v4 w4 H4 st4 _ fr4 x4 r4 y4 => ?_
        obtain ⟨d, e, p⟩ := Yl.lift y4 fr4.wr
        exact ⟨w4, st4, d2, d4, d, fr4.wr, (r2.mono (p3.ext.le fr2.wr)).mono (x4.le fr3.wr), r4, e, p⟩
      | false =>
        rw [if_neg Bool.false_ne_true]
        exact Yl.ok (Yl.ext (r := R.ok (D.bl false) st2) y2 p3.ext) fr3.wr (.bl _)
    | _ => exact y2.elim
theorem r_and {rest : List Expr} {pos : Pos} (ha : PE X a (TEv (Gx X g) w0 H0 W <| ea)) (hb : PE X (.BoolOp .And (b :: rest) pos) (TEv (Gx X g) w0 H0 W <| eb)) :
    PE X (.BoolOp .And (a :: b :: rest) pos) (TEv (Gx X g) w0 H0 W <| fun env st => (ea env st).bind fun x st => match x with | .bl true => eb env st | .bl false => .ok (.bl false) st | _ => .bad) := by
  refine PE.imp (pe_and ha hb) fun σ H Q ⟨env, w, st, fr, y⟩ => T.seq fr y fun d1 v1 w1 H1 st1 _ fr1 _ r1 y1 => ?_
  cases d1 with
  | bl t =>
    cases rep_bl r1
    refine ⟨t, rfl, ?_⟩
    cases t with
    | true => rw [if_pos rfl]; exact T.tail fr1 y1
    | false => rw [if_neg Bool.false_ne_true]; exact Yl.ok (a := D.bl false) y1 fr1.wr (.bl _)
  | _ => exact y1.elim
theorem r_or {rest : List Expr} {pos : Pos} (ha : PE X a (TEv (Gx X g) w0 H0 W <| ea)) (hb : PE X (.BoolOp .Or (b :: rest) pos) (TEv (Gx X g) w0 H0 W <| eb)) :
    PE X (.BoolOp .Or (a :: b :: rest) pos) (TEv (Gx X g) w0 H0 W <| fun env st => (ea env st).bind fun x st => match x with | .bl true => .ok (.bl true) st | .bl false => eb env st | _ => .bad) := by
  refine PE.imp (pe_or ha hb) fun σ H Q ⟨env, w, st, fr, y⟩ => T.seq fr y fun d1 v1 w1 H1 st1 _ fr1 _ r1 y1 => ?_
  cases d1 with
  | bl t =>
    cases rep_bl r1
    refine ⟨t, rfl, ?_⟩
    cases t with
    | true => rw [if_pos rfl]; exact Yl.ok (a := D.bl true) y1 fr1.wr (.bl _)
    | false => rw [if_neg Bool.false_ne_true]; exact T.tail fr1 y1
  | _ => exact y1.elim
theorem r_not {pos : Pos} (ha : PE X a (TEv (Gx X g) w0 H0 W <| ea)) : PE X (.UnaryOp .Not a pos) (TEv (Gx X g) w0 H0 W <| fun env st => (ea env st).bind fun x st => match x with | .bl b => .ok (.bl (!b)) st | _ => .bad) := by
  refine PE.imp (pe_not ha) fun σ H Q ⟨env, w, st, fr, y⟩ => T.seq fr y fun d1 v1 w1 H1 st1 _ fr1 _ r1 y1 => ?_
  cases d1 with
  | bl t =>
    cases rep_bl r1
    exact ⟨t, rfl, Yl.ok (a := D.bl (!t)) y1 fr1.wr (.bl _)⟩
  | _ => exact y1.elim
theorem r_ife {pos : Pos} (hc : PT X c (TBv (Gx X g) w0 H0 W <| ec)) (ha : PE X a (TEv (Gx X g) w0 H0 W <| ea)) (hb : PE X b (TEv (Gx X g) w0 H0 W <| eb)) :
    PE X (.IfExp c a b pos) (TEv (Gx X g) w0 H0 W <| fun env st => (ec env st).bind fun x st => match x with | .bl true => ea env st | .bl false => eb env st | _ => .bad) := by
  refine PE.imp (pe_ifExp hc ha hb) fun σ H Q ⟨env, w, st, fr, y⟩ => ?_
  have y' : Yl (Gx X g) W (Rep (Gx X g)) σ w H ((toB (ec env st)).bind fun t st => if t = true then ea env st else eb env st) Q := by
    unfold toB
    dsimp only at y
    cases q : ec env st with
    | ok d s =>
      rw [q] at y
      cases d with
      | bl t => cases t <;> exact y
      | _ => exact y.elim
    | exc c s => rw [q] at y; exact y
    | bad => rw [q] at y; exact y
  refine T.seq (ea := fun env st => toB (ec env st)) fr y' fun t t' w1 H1 st1 _ fr1 _ r1 y1 => ?_
  have r1 : t = t' := r1
  subst r1
  cases t with
  | true => rw [if_pos rfl] at y1 ⊢; exact T.tail fr1 y1
  | false => rw [if_neg Bool.false_ne_true] at y1 ⊢; exact T.tail fr1 y1
/-! tests -/
theorem t_val (ht : plainTest e = true) (he : PE X e (TEv (Gx X g) w0 H0 W <| ea)) : PT X e (TBv (Gx X g) w0 H0 W <| ea) := by
  refine PT.imp (pt_val he fun whole => by
    cases e <;> first | rfl | cases ht | skip
    rename_i op _ _
    cases op <;> first | rfl | cases ht) fun σ H Q ⟨env, w, st, fr, y⟩ => ?_
  refine T.seq (rel2 := fun _ _ (b : Bool) c => b = c) fr y fun d v w1 H1 st1 _ fr1 _ r y1 => ?_
  cases d with
  | bl t =>
    cases rep_bl r
    exact ⟨t, rfl, Yl.ok (a := t) y1 fr1.wr rfl⟩
  | _ => exact y1.elim
theorem t_cmp {o : OP} {op : CmpOp} {pos : Pos} (gd : Good X g ck con C N sc W k) (ho : cmpO o op = true) (hn : notSet b = true) (ha : PE X a (TEv (Gx X g) w0 H0 W <| ea)) (hb : PE X b (TEv (Gx X g) w0 H0 W <| eb)) :
    PT X (.Compare a [op] [b] pos) (TBv (Gx X g) w0 H0 W <| fun env st => (ea env st).bind fun x st => (eb env st).bind fun y st => liftO (op2 st o x y) st) := by
  refine PT.imp (pt_cmpR (cmp_r gd ho) ha hb (behind_ok hn)) fun σ H Q ⟨env, w, st, fr, y⟩ => ?_
  have y' : Yl (Gx X g) W (Rep (Gx X g)) σ w H ((ea env st).bind fun x st => (eb env st).bind fun y st => liftO (op2 st o x y) st) (fun x H' => ∃ k, x = .bl k ∧ Q k H') := by
    unfold toB at y
    dsimp only at y
    cases q : ((ea env st).bind fun x st => (eb env st).bind fun y st => liftO (op2 st o x y) st) with
    | ok d s =>
      rw [q] at y
      cases d with
      | bl t => exact fun w' H' v x wr r => by cases rep_bl r; exact ⟨t, rfl, y w' H' t x wr rfl⟩
      | _ => exact y.elim
    | exc c s => rw [q] at y; exact y
    | bad => rw [q] at y; exact y
  exact seq2 ⟨env, w, st, fr, y'⟩
theorem t_chn {o o' : OP} {op op' : CmpOp} {pos : Pos} (gd : Good X g ck con C N sc W k) (ho : cmpO o op = true) (ho' : cmpO o' op' = true) (hn : notSet c = true) (ha : PE X a (TEv (Gx X g) w0 H0 W <| ea)) (hb : PE X b (TEv (Gx X g) w0 H0 W <| eb)) (hc : PE X c (TEv (Gx X g) w0 H0 W <| ec)) :
    PT X (.Compare a [op, op'] [b, c] pos) (TBv (Gx X g) w0 H0 W <| fun env st => (ea env st).bind fun x st => (eb env st).bind fun y st => match op2 st o x y with
      | some (.bl true) => (ec env st).bind fun z st => liftO (op2 st o' y z) st
      | some (.bl false) => .ok (.bl false) st
      | _ => .bad) := by
  refine PT.imp (pt_chain (cmp_r gd ho) (cmp_r gd ho') ha hb hc (by show behindInMarks op' c = false; exact behind_ok hn)) fun σ H Q ⟨env, w, st, fr, y⟩ => ?_
  unfold toB at y
  dsimp only at y
  show tChain _ _ _ _ _ σ H _
  have y' : Yl (Gx X g) W (Rep (Gx X g)) σ w H ((ea env st).bind fun x st => (eb env st).bind fun y st => match op2 st o x y with
      | some (.bl true) => (ec env st).bind fun z st => liftO (op2 st o' y z) st
      | some (.bl false) => .ok (.bl false) st
      | _ => .bad) (fun x H' => ∃ k, x = .bl k ∧ Q k H') := by
    cases q : ((ea env st).bind fun x st => (eb env st).bind fun y st => match op2 st o x y with
      | some (.bl true) => (ec env st).bind fun z st => liftO (op2 st o' y z) st
      | some (.bl false) => .ok (.bl false) st
      | _ => .bad) with
    | ok d s =>
      rw [q] at y
      cases d with
      | bl t => exact fun w' H' v x wr r => by cases rep_bl r; exact ⟨t, rfl, y w' H' t x wr rfl⟩
      | _ => exact y.elim
    | exc c s => rw [q] at y; exact y
    | bad => rw [q] at y; exact y
  refine T.seq fr y' fun d1 v1 w1 H1 st1 _ fr1 _ r1 y1 => ?_
  refine T.seq fr1 y1 fun d2 v2 w2 H2 st2 _ fr2 x2 r2 y2 => ?_
  cases q : op2 st2 o d1 d2 with
  | none => rw [q] at y2; exact y2.elim
  | some r =>
    rw [q] at y2
    cases r with
    | bl t =>
      refine ⟨w2, st2, d1, d2, .bl t, fr2.wr, r1.mono (x2.le fr1.wr), r2, q, fun w3 H3 v3 p3 r3 => ?_⟩
      cases rep_bl r3
      refine ⟨t, rfl, ?_⟩
      have fr3 := fr2.step p3.ext (p3.wrel fr2.wr)
      cases t with
      | true =>
        rw [if_pos rfl]
        refine T.seq fr3 (Yl.ext y2 p3.ext) fun d4 v4 w4 H4 st4 _ fr4 x4 r4 y4 => ?_
        obtain ⟨d, e, p⟩ := Yl.lift y4 fr4.wr
        exact ⟨w4, st4, d2, d4, d, fr4.wr, (r2.mono (p3.ext.le fr2.wr)).mono (x4.le fr3.wr), r4, e, p⟩
      | false =>
        rw [if_neg Bool.false_ne_true]
        exact Yl.ok (Yl.ext (r := R.ok (D.bl false) st2) y2 p3.ext) fr3.wr (.bl _)
    | _ => exact y2.elim
end
end Ev
namespace Ev
open PySem PySem.Spec PyProof.Rows L2
theorem PW.imp {X : Cx} {e : Expr} {t t' : TT} (h : PW X e t) (k : ∀ σ H Q, t' σ H Q → t σ H Q) : PW X e t' := ⟨fun wh pins s σ H Q I q => h.run wh pins s σ H Q I (k σ H Q q)⟩
section
variable {X : Cx} {g : GN} {ck : CK} {con : Nat → Option D} {C : CT} {N : List Str} {sc : Scope} {W : WX} {k : Nat} {w0 : Wd} {H0 : Hp}
variable {ea eb ec : EvEnv → HSt → R D} {a b c e : Expr}
/-- a test's first part -/
theorem tb_seq {f : EvEnv → D → HSt → R D} {σ : L2.St} {H : Hp} {Q : Bool → Hp → Prop} (h : (TBv (Gx X g) w0 H0 W <| fun env st => (ea env st).bind (f env)) σ H Q)
    {P : Bool → Hp → Prop} (hn : ∀ env d s, (∀ t, d ≠ .bl t) → f env d s = .bad)
    (kk : ∀ (t : Bool) env w1 H1 st1, FR (Gx X g) w0 H0 env σ w1 H1 st1 → Yl (Gx X g) W (fun _ _ (b : Bool) c => b = c) σ w1 H1 (toB (f env (.bl t) st1)) Q → P t H1) : (TBv (Gx X g) w0 H0 W <| ea) σ H P := by
  obtain ⟨env, w, st, fr, y⟩ := h
  refine ⟨env, w, st, fr, ?_⟩
  dsimp only at y ⊢
  unfold toB at y ⊢
  cases q : ea env st with
  | ok d s =>
    rw [q] at y
    simp only [R.bind_ok] at y ⊢
    by_cases hd : ∃ t, d = .bl t
    · obtain ⟨t, rfl⟩ := hd
      intro w' H' b x wr rb
      have rb : t = b := rb
      subst rb
      exact kk t env w' H' s (fr.step x wr) (Yl.ext y x)
    · rw [hn env d s (fun t e => hd ⟨t, e⟩)] at y
      exact y.elim
  | exc c s => rw [q] at y; exact y
  | bad => rw [q] at y; exact y
def fAnd (eb : EvEnv → HSt → R D) (env : EvEnv) (x : D) (st : HSt) : R D := match x with | .bl true => eb env st | .bl false => .ok (.bl false) st | _ => .bad
def fOr (eb : EvEnv → HSt → R D) (env : EvEnv) (x : D) (st : HSt) : R D := match x with | .bl true => .ok (.bl true) st | .bl false => eb env st | _ => .bad
theorem fAnd_bad (env : EvEnv) (d : D) (s : HSt) (h : ∀ t, d ≠ .bl t) : fAnd eb env d s = .bad := by
  cases d <;> first | rfl | exact absurd rfl (h _)
theorem fOr_bad (env : EvEnv) (d : D) (s : HSt) (h : ∀ t, d ≠ .bl t) : fOr eb env d s = .bad := by
  cases d <;> first | rfl | exact absurd rfl (h _)
theorem and_core {ta tb : TT} {σ : L2.St} {H : Hp} {Q : Bool → Hp → Prop} (h : (TBv (Gx X g) w0 H0 W <| fun env st => (ea env st).bind (fAnd eb env)) σ H Q) : tAnd (TBv (Gx X g) w0 H0 W <| ea) (TBv (Gx X g) w0 H0 W <| eb) σ H Q := by
  refine tb_seq h fAnd_bad fun t env w1 H1 st1 fr1 y1 => ?_
  cases t with
  | true => rw [if_pos rfl]; exact ⟨env, w1, st1, fr1, y1⟩
  | false => rw [if_neg Bool.false_ne_true]; exact Yl.ok (a := false) y1 fr1.wr rfl
theorem or_core {ta tb : TT} {σ : L2.St} {H : Hp} {Q : Bool → Hp → Prop} (h : (TBv (Gx X g) w0 H0 W <| fun env st => (ea env st).bind (fOr eb env)) σ H Q) : tOr (TBv (Gx X g) w0 H0 W <| ea) (TBv (Gx X g) w0 H0 W <| eb) σ H Q := by
  refine tb_seq h fOr_bad fun t env w1 H1 st1 fr1 y1 => ?_
  cases t with
  | true => rw [if_pos rfl]; exact Yl.ok (a := true) y1 fr1.wr rfl
  | false => rw [if_neg Bool.false_ne_true]; exact ⟨env, w1, st1, fr1, y1⟩
theorem w_and {rest : List Expr} {pos : Pos} (ha : PT X a (TBv (Gx X g) w0 H0 W <| ea)) (hb : PW X (.BoolOp .And (b :: rest) pos) (TBv (Gx X g) w0 H0 W <| eb)) : PW X (.BoolOp .And (a :: b :: rest) pos) (TBv (Gx X g) w0 H0 W <| fun env st => (ea env st).bind (fAnd eb env)) :=
  PW.imp (pw_and ha hb) fun σ H Q h => and_core (ta := TBv (Gx X g) w0 H0 W <| ea) (tb := TBv (Gx X g) w0 H0 W <| eb) h
theorem w_or {rest : List Expr} {pos : Pos} (ha : PT X a (TBv (Gx X g) w0 H0 W <| ea)) (hb : PW X (.BoolOp .Or (b :: rest) pos) (TBv (Gx X g) w0 H0 W <| eb)) : PW X (.BoolOp .Or (a :: b :: rest) pos) (TBv (Gx X g) w0 H0 W <| fun env st => (ea env st).bind (fOr eb env)) :=
  PW.imp (pw_or ha hb) fun σ H Q h => or_core (ta := TBv (Gx X g) w0 H0 W <| ea) (tb := TBv (Gx X g) w0 H0 W <| eb) h
theorem t_not {pos : Pos} (ha : PT X a (TBv (Gx X g) w0 H0 W <| ea)) : PT X (.UnaryOp .Not a pos) (TBv (Gx X g) w0 H0 W <| fun env st => (ea env st).bind fun x st => match x with | .bl b => .ok (.bl (!b)) st | _ => .bad) := by
  refine PT.imp (pt_not ha) fun σ H Q h => ?_
  refine tb_seq (f := fun _ x st => match x with | .bl b => .ok (.bl (!b)) st | _ => .bad) h (fun env d s h => by cases d <;> first | rfl | exact absurd rfl (h _)) fun t env w1 H1 st1 fr1 y1 => ?_
  exact Yl.ok (a := !t) y1 fr1.wr rfl
/-! ### calls -/
theorem few_ok {es : List Expr} (h : es.all notStar = true) : ∀ pos env, (backTo pos (starEach es env)).any (·.1) = false := fun pos env => back_ok pos env es h
theorem YlF.of {G : GC} {w : Wd} {H : Hp} {σ : L2.St} {r : R D} {Q : VK} (y : Yl G W (Rep G) σ w H r Q) : YlF G w H r Q (fun c d H' => W c d σ H') := by
  cases r with
  | ok d s => exact y
  | exc c s => exact y
  | bad => exact y
theorem r_call {x : Str} {p pos : Pos} {f : Nat} {e : Expr} {es : List Expr} {ev : EvEnv → HSt → R (List D)} (gd : Good X g ck con C N sc W k) (hf : ck.has f = true) (hx : globB sc x (ck.fn f) = true) (hst : notStar e = true) (hes : es.all notStar = true) (h : PA X (e :: es) (TAv (Gx X g) w0 H0 W <| ev)) :
    PE X (.Call (.Name x p) (e :: es) [] pos) (TEv (Gx X g) w0 H0 W <| fun env st => (ev env st).bind fun ds st => C f ds st) := by
  obtain ⟨rfl, h2, h3⟩ := globB_ok hx
  obtain ⟨p1, p2⟩ := plain_ok h3
  obtain ⟨a, fd, ps, hm, hk, hb, hl, F⟩ := (gd.fn f hf).ex
  refine PE.imp (pe_callS F gd.room (gd.gl h2) hm hk hb (fun σ => L2N.passAt gd.tk σ) h p1 (star_ok hst es X.env) (few_ok hes pos X.env)) fun σ H Q ⟨env, w, st, fr, y⟩ => ?_
  refine T.seq fr y fun ds vs w1 H1 st1 _ fr1 _ r y1 => ⟨w1, st1, ds, fr1.wr, r, ?_, YlF.of y1⟩
  rw [← r.length]
  exact hl ds st1 (fun z => by rw [z] at y1; exact y1)
def biTy : BI → Value
  | .len => .builtin "len" | .all_ => .builtin "all" | .any_ => .builtin "any" | .sorted => .builtin "sorted" | .sum => .builtin "sum" | .max2 => .builtin "max" | .min2 => .builtin "min"
  | .tuple => .type "tuple" | .list => .type "list" | .dict => .type "dict" | .int => .type "int" | .str => .type "str"
theorem bi_rule (hc : X.calm = true) : ∀ b : BI, CallR X (biTy b) (rPL (Gx X g) fun st ds => biD st b ds)
  | .len => c_len
  | .all_ => c_all hc
  | .any_ => c_any hc
  | .sorted => c_sorted
  | .tuple => c_tuple
  | .list => c_list
  | .dict => c_dict hc
  | .int => c_int
  | .str => fun pins s σ H xs us Q I r ⟨w, st, ds, d, wr, ra, e, p⟩ => by cases e
  | .sum => c_sum hc
  | .max2 => c_max2 hc
  | .min2 => c_min2 hc
theorem bi_boot (b : BI) : bootBuiltins (biN b) = some (biTy b) := by cases b <;> decide +kernel
theorem bi_name (b : BI) : biN b ≠ "__name__" := by cases b <;> decide +kernel
theorem bi_pe {x : Str} {p pos : Pos} {b : BI} {e : Expr} {es : List Expr} {ta : TA} (gd : Good X g ck con C N sc W k) (hx : globB sc x (biN b) = true) (hes : (e :: es).all notStar = true) (h : PA X (e :: es) ta) :
    PE X (.Call (.Name x p) (e :: es) [] pos) (tCB (rPL (Gx X g) fun st ds => biD st b ds) ta) := by
  obtain ⟨rfl, h2, h3⟩ := globB_ok hx
  obtain ⟨p1, p2⟩ := plain_ok h3
  rw [List.all_cons, Bool.and_eq_true] at hes
  have hb := bi_boot b
  have hr := bi_rule (X := X) (g := g) gd.calm b
  have hn := bi_name b
  cases b <;> first
    | exact pe_callB hr (gd.gl h2) (gd.mg.bi _) hb h hn p1 (star_ok hes.1 es X.env) (few_ok hes.2 pos X.env)
    | exact pe_callTy hr (gd.gl h2) (gd.mg.bi _) hb h hn p1 (star_ok hes.1 es X.env) (few_ok hes.2 pos X.env)
theorem r_bi {x : Str} {p pos : Pos} {b : BI} {e : Expr} {es : List Expr} {ev : EvEnv → HSt → R (List D)} (gd : Good X g ck con C N sc W k) (hx : globB sc x (biN b) = true) (hes : (e :: es).all notStar = true) (h : PA X (e :: es) (TAv (Gx X g) w0 H0 W <| ev)) :
    PE X (.Call (.Name x p) (e :: es) [] pos) (TEv (Gx X g) w0 H0 W <| fun env st => (ev env st).bind fun ds st => liftO (biD st b ds) st) := by
  refine PE.imp (bi_pe gd hx hes h) fun σ H Q ⟨env, w, st, fr, y⟩ => T.seq fr y fun ds vs w1 H1 st1 _ fr1 _ r y1 => ?_
  obtain ⟨d, e, pp⟩ := Yl.lift y1 fr1.wr
  exact ⟨w1, st1, ds, d, fr1.wr, r, e, pp⟩
theorem ty_boot (T : TY) : bootBuiltins (tyS T) = some (.type (tyS T)) := by cases T <;> decide +kernel
theorem ty_name (T : TY) : (Str.ofString (tyS T)) ≠ "__name__" := by cases T <;> decide +kernel
theorem isi_pe {x y : Str} {p p2 pos : Pos} {T : TY} {e : Expr} {te : TE} (gd : Good X g ck con C N sc W k) (hx : globB sc x "isinstance" = true) (hy : globB sc y (tyS T) = true) (hst : notStar e = true) (h : PE X e te) :
    PE X (.Call (.Name x p) [e, .Name y p2] [] pos) (tCB (rIsiD (Gx X g) T) (tCons te (tCons (tC (.ty (tyS T))) tNil))) := by
  obtain ⟨rfl, h2, h3⟩ := globB_ok hx
  obtain ⟨rfl, h4, h5⟩ := globB_ok hy
  obtain ⟨p1, _⟩ := plain_ok h3
  obtain ⟨q1, _⟩ := plain_ok h5
  have hm : X.mg (Str.ofString (tyS T)) = none := by
    cases T
    · exact gd.mg.bi .str
    · exact gd.mg.bi .int
    · exact gd.mg.bool
    · exact gd.mg.bi .tuple
    · exact gd.mg.bi .list
  have hty : PE X (.Name (Str.ofString (tyS T)) p2) (tC (.ty (tyS T))) := pe_bltn (gd.gl h4) hm (ty_boot T) rfl (ty_name T) q1
  exact pe_callB (c_isi (g := g) T) (gd.gl h2) gd.mg.isi (by decide +kernel) (pa_cons h (pa_cons hty pa_nil) (star_ok hst _ _)) (by decide +kernel) p1 (star_ok hst _ _) (few_ok (es := [_]) rfl pos X.env)
theorem r_isi {x y : Str} {p p2 pos : Pos} {T : TY} {e : Expr} (gd : Good X g ck con C N sc W k) (hx : globB sc x "isinstance" = true) (hy : globB sc y (tyS T) = true) (hst : notStar e = true) (h : PE X e (TEv (Gx X g) w0 H0 W <| ea)) :
    PE X (.Call (.Name x p) [e, .Name y p2] [] pos) (TEv (Gx X g) w0 H0 W <| fun env st => (ea env st).bind fun x st => liftO (bD (isiD T x)) st) := by
  refine PE.imp (isi_pe gd hx hy hst h) fun σ H Q ⟨env, w, st, fr, y⟩ => ?_
  refine _root_.Ev.T.seq fr y fun d v w1 H1 st1 _ fr1 _ r y1 => ?_
  obtain ⟨d', e, pp⟩ := Yl.lift (W := W) (σ := σ) y1 fr1.wr
  unfold bD at e
  simp only [Option.map_eq_some_iff] at e
  obtain ⟨b, e, rfl⟩ := e
  exact ⟨w1, st1, d, v, b, rfl, fr1.wr, r, e, pp.here (.bl b)⟩
/-! ### slices -/
/-- a slice's part -/
def TPv (G : GC) (w0 : Wd) (H0 : Hp) (W : WX) (i : IE) (ev : EvEnv → HSt → R D) : L2.St → Hp → (Option Int → Hp → Prop) → Prop := fun σ H Q =>
  ∃ env w st, FR G w0 H0 env σ w H st ∧ match ev env st with
    | .ok d st' => chkP i d = true ∧ ∀ w' H' o, oI d = some o → Ext w H w' H' → WRel G w' H' st' → Q o H'
    | .exc c st' => ∀ w' H', Ext w H w' H' → WRel G w' H' st' → W (.ref (G.cls c)) none σ H'
    | .bad => False
theorem PO.imp {X : Cx} {e : Option Expr} {t t' : TO} (h : PO X e t) (k : ∀ σ H Q, t' σ H Q → t σ H Q) : PO X e t' := ⟨fun pins s σ H Q I q => h.run pins s σ H Q I (k σ H Q q)⟩
theorem p_none {TD : Nat → Nat → Option D} {i : IE} (h : isNonE i = true) : PO X none (TPv (Gx X g) w0 H0 W i fun env st => evE con C TD env i st) := PO.imp po_none fun σ H Q ⟨env, w, st, fr, y⟩ => by
  cases i <;> first | cases h | skip
  obtain ⟨_, y⟩ := y
  exact y w H none rfl .refl fr.wr
theorem p_some {i : IE} {e : Expr} (hi : isNonE i = false) (h : PE X e (TEv (Gx X g) w0 H0 W <| ea)) : PO X (some e) (TPv (Gx X g) w0 H0 W i ea) := PO.imp (po_some h) fun σ H Q ⟨env, w, st, fr, y⟩ => by
  refine ⟨env, w, st, fr, ?_⟩
  dsimp only at y ⊢
  cases q : ea env st with
  | ok d s =>
    rw [q] at y
    obtain ⟨e, y⟩ := y
    intro w' H' v x wr r
    cases d with
    | int i => cases rep_int r; exact ⟨_, rfl, y w' H' _ rfl x wr⟩
    | non => rw [show chkP i .non = isNonE i from rfl, hi] at e; cases e
    | _ => cases e
  | exc c s => rw [q] at y; exact y
  | bad => rw [q] at y; exact y
theorem chkP_oI {i : IE} {d : D} (h : chkP i d = true) : ∃ o, oI d = some o := by
  cases d <;> first | exact ⟨_, rfl⟩ | cases h
theorem r_slc {il ih : IE} {lo hi : Option Expr} {pos p2 : Pos} (ha : PE X a (TEv (Gx X g) w0 H0 W <| ea)) (hl : PO X lo (TPv (Gx X g) w0 H0 W il eb)) (hh : PO X hi (TPv (Gx X g) w0 H0 W ih ec)) :
    PE X (.Subscript a (.Slice lo hi none p2) pos) (TEv (Gx X g) w0 H0 W <| fun env st => (ea env st).bind fun x st => (eb env st).bind fun l st => guardP (chkP il l) ((ec env st).bind fun h st => guardP (chkP ih h) (liftO (slcD st x l h) st))) := by
  refine PE.imp (pe_slice (s_slice (g := g)) ha hl hh) fun σ H Q ⟨env, w, st, fr, y⟩ => ?_
  refine T.seq fr y fun d v w1 H1 st1 _ fr1 _ r y1 => ?_
  refine ⟨env, w1, st1, fr1, ?_⟩
  cases q : eb env st1 with
  | exc c s => rw [q] at y1; exact y1
  | bad => rw [q] at y1; exact y1
  | ok l s =>
    rw [q] at y1
    simp only [R.bind_ok] at y1
    unfold guardP at y1
    split at y1
    · rename_i hc
      refine ⟨hc, fun w2 H2 o eo x2 wr2 => ⟨env, w2, s, fr1.step x2 wr2, ?_⟩⟩
      have y2 := Yl.ext y1 x2
      cases q2 : ec env s with
      | exc c s => rw [q2] at y2; exact y2
      | bad => rw [q2] at y2; exact y2
      | ok h s2 =>
        rw [q2] at y2
        simp only [R.bind_ok] at y2
        split at y2
        · rename_i hc2
          refine ⟨hc2, fun w3 H3 o2 eo2 x3 wr3 => ?_⟩
          obtain ⟨d', e, pp⟩ := Yl.lift (Yl.ext y2 x3) wr3
          exact ⟨w3, s2, d, l, h, d', wr3, (r.mono (x2.le fr1.wr)).mono (x3.le wr2), eo, eo2, e, pp⟩
        · exact y2.elim
    · exact y1.elim
theorem r_rev {j : Nat} {p1 p2 p3 pos : Pos} (ha : PE X a (TEv (Gx X g) w0 H0 W <| ea)) : PE X (.Subscript a (.Slice none none (some (.UnaryOp .USub (.Constant (.int 1) j p1) p2)) p3) pos)
    (TEv (Gx X g) w0 H0 W <| fun env st => (ea env st).bind fun x st => match x with | .lst ds => .ok (.lst ds.reverse) st | _ => .bad) := by
  refine PE.imp (pe_revL ha) fun σ H Q ⟨env, w, st, fr, y⟩ => T.seq fr y fun d v w1 H1 st1 _ fr1 _ r y1 => ?_
  cases d with
  | lst ds =>
    cases r with
    | lst f h q => exact ⟨_, _, rfl, SqL.of h, fun p hp => (Yl.py (d := .lst ds.reverse) y1 fr1.wr).lst fr1.wr q.reverse p hp⟩
  | _ => exact y1.elim
end
end Ev
namespace Ev
open PySem PySem.Spec PyProof.Rows L2
/-! ### targets -/
mutual
def gT (K : PySem.W.Frag) : Tgt → TG
  | .nm i => gName i
  | .tp ts => gTup K ts.length (gTs K ts)
def gTs (K : PySem.W.Frag) : List Tgt → TGs
  | [] => gNil
  | t :: ts => gCons (gT K t) (gTs K ts)
end
theorem assignEach_len (X : Cx) : ∀ es : List Expr, es.all notStar = true → (assignEach es X.env).length = es.length ∧ (assignEach es X.env).findIdx? (·.1) = none
  | [], _ => ⟨rfl, rfl⟩
  | e :: es, h => by
    rw [List.all_cons, Bool.and_eq_true] at h
    obtain ⟨a, b⟩ := assignEach_len X es h.2
    have q : assignEach (e :: es) X.env = (false, assign e X.env) :: assignEach es X.env := by
      cases e <;> first | rfl | exact absurd h.1 Bool.false_ne_true
    rw [q]
    refine ⟨by simp [a], ?_⟩
    rw [List.findIdx?_cons]
    simp [b]
theorem assignEach_cons (X : Cx) {e : Expr} (es : List Expr) (h : notStar e = true) : (assignEach (e :: es) X.env).map (·.2) = assign e X.env :: (assignEach es X.env).map (·.2) := by
  cases e <;> first | rfl | exact absurd h Bool.false_ne_true
section
variable {X : Cx} {N : List Str} {sc : Scope} {fb : Str → Bool} (hN : X.N = N) (nd : N.Nodup) (hs : X.env.scope = sc) (hc : X.calm = true) (hf : ∀ x, fb x = true → X.fn x = true)
include hN nd hs hc hf
mutual
theorem g_ok : ∀ (t : Tgt) (e : Expr), chkG N sc fb t e = true → PG X e (gT X.K t)
  | .nm i, e, h => by
    simp only [chkG] at h
    split at h
    · rename_i x pos
      simp only [Bool.and_eq_true, Bool.or_eq_true] at h
      obtain ⟨h1, h2⟩ := h
      rw [lookN_eq] at h2
      have hi := slotB_ok h1
      have cases2 : (X.env.scope.names.lookup x = some .local) ∨ (X.env.scope.names.lookup x = some .cell ∧ X.fn x = true) := by
        rw [hs]
        cases q : sc.names.lookup x with
        | none => rw [q] at h2; simp [isLocal, isCell] at h2
        | some z =>
          rw [q] at h2
          cases z with
          | «local» => exact .inl rfl
          | cell => exact .inr ⟨rfl, hf x (by simpa [isLocal, isCell] using h2)⟩
          | _ => simp [isLocal, isCell] at h2
      rcases cases2 with q | ⟨q, q2⟩
      · exact pg_name (by rw [hN]; exact nd) (by rw [hN]; exact hi) (.inl q) (.inr q)
      · exact pg_name (by rw [hN]; exact nd) (by rw [hN]; exact hi) (.inr q) (.inl q2)
    · cases h
  | .tp ts, e, h => by
    simp only [chkG] at h
    split at h
    · rename_i es j pos
      obtain ⟨h1, h2, h3⟩ := gs_ok ts es h
      obtain ⟨a, b⟩ := assignEach_len X es h2
      exact pg_tup hc h1 (by rw [a, h3]) b
    · cases h
theorem gs_ok : ∀ (ts : List Tgt) (es : List Expr), chkGs N sc fb ts es = true → PGs X es (gTs X.K ts) ∧ es.all notStar = true ∧ es.length = ts.length
  | [], es, h => by
    cases es with
    | nil => exact ⟨pgs_nil, rfl, rfl⟩
    | cons e es => simp [chkGs] at h
  | t :: ts, es, h => by
    cases es with
    | nil => simp [chkGs] at h
    | cons e es =>
      simp only [chkGs, Bool.and_eq_true] at h
      obtain ⟨a, b, c⟩ := gs_ok ts es h.2
      exact ⟨pgs_cons (g_ok t e h.1.2) a (assignEach_cons X es h.1.1), by rw [List.all_cons, h.1.1, b]; rfl, by simp [c]⟩
end
end
/-- a value, or a tuple that stands for this turn alone -/
def RepW (G : GC) (wk : Bool) (w : Wd) (H : Hp) (d : D) (v : V) : Prop := Rep G w H d v ∨ (wk = true ∧ ∃ ds a vs, d = .tup ds ∧ v = .ref a ∧ SqT G.K H a vs ∧ RepAll G w H ds vs)
theorem wipe_get {σ : L2.St} : ∀ {vs : List Nat} {i : Nat}, i ∈ vs → ∀ {v}, (wipe σ vs)[i]? ≠ some (some v)
  | u :: vs, i, h, v => by
    intro q
    exact (wipe_some q).2 h
theorem wipe_set {σ : L2.St} {x : Option V} : ∀ {vs : List Nat} {i : Nat}, i ∈ vs → wipe (σ.set i x) vs = wipe σ vs
  | [], _, h => by cases h
  | u :: vs, i, h => by
    unfold wipe
    by_cases e : u = i
    · subst e
      by_cases h2 : u ∈ vs
      · rw [wipe_set h2]
      · have q : ∀ (vs : List Nat) (τ : L2.St), u ∉ vs → wipe (τ.set u x) vs = (wipe τ vs).set u x := by
          intro vs
          induction vs with
          | nil => intro τ _; rfl
          | cons z zs ih =>
            intro τ hz
            simp only [List.mem_cons, not_or] at hz
            unfold wipe
            rw [ih τ hz.2, List.set_comm _ _ (Ne.symm hz.1)]
        rw [q vs σ h2, List.set_set]
    · rcases List.mem_cons.mp h with z | z
      · exact absurd z.symm e
      · rw [wipe_set z]
section
variable {G : GC} {w0 : Wd} {H0 : Hp} {w : Wd} {H : Hp} {st : HSt}
mutual
theorem bind_ok : ∀ (t : Tgt) {env env' : EvEnv} {σ : L2.St} {d : D} {v : V} {Q : L2.St → Hp → Prop} {wk : Bool}, bindT env t d = some env' → FR G w0 H0 env σ w H st → RepW G wk w H d v → (wk = true → isTp t = true) →
    (∀ σ', FR G w0 H0 env' σ' w H st → (∀ own, tgtIn own t = true → wipe σ' own = wipe σ own) → Q σ' H) → gT G.K t v σ H Q
  | .nm i, env, env', σ, d, v, Q, wk, h, fr, r, hw, k => by
    simp only [bindT] at h
    split at h
    · rename_i hi
      cases h
      have r' : Rep G w H d v := r.elim id fun ⟨z, _⟩ => absurd (hw z) Bool.false_ne_true
      exact k _ (fr.store r' hi) fun own ho => wipe_set (by simpa [tgtIn] using ho)
    · cases h
  | .tp ts, env, env', σ, d, v, Q, wk, h, fr, r, hw, k => by
    simp only [bindT] at h
    cases d with
    | tup ds =>
      have z : ∃ a vs, v = .ref a ∧ SqT G.K H a vs ∧ RepAll G w H ds vs := by
        rcases r with r | ⟨_, ds', a, vs, e, e2, q, ra⟩
        · cases r with
          | tup l a => exact ⟨_, _, rfl, l.sq, a⟩
        · cases e; exact ⟨a, vs, e2, q, ra⟩
      obtain ⟨a, vs, rfl, q, ra⟩ := z
      obtain ⟨hl, hb⟩ := binds_ok ts h fr ra (fun σ' f' hh => k σ' f' fun own ho => hh own (by simpa [tgtIn] using ho))
      exact ⟨a, vs, rfl, q, by rw [← ra.length, hl], hb⟩
    | _ => cases h
theorem binds_ok : ∀ (ts : List Tgt) {env env' : EvEnv} {σ : L2.St} {ds : List D} {vs : List V} {Q : L2.St → Hp → Prop}, bindT.bindTs env ts ds = some env' → FR G w0 H0 env σ w H st → RepAll G w H ds vs →
    (∀ σ', FR G w0 H0 env' σ' w H st → (∀ own, tgtsIn own ts = true → wipe σ' own = wipe σ own) → Q σ' H) → ds.length = ts.length ∧ gTs G.K ts vs σ H Q
  | [], env, env', σ, ds, vs, Q, h, fr, r, k => by
    cases ds with
    | nil =>
      cases h
      cases r
      exact ⟨rfl, rfl, k σ fr fun _ _ => rfl⟩
    | cons d ds => cases h
  | t :: ts, env, env', σ, ds, vs, Q, h, fr, r, k => by
    cases ds with
    | nil => cases h
    | cons d ds =>
      cases r with
      | @cons _ _ v vs r1 r2 =>
        simp only [bindT.bindTs, Option.bind_eq_some_iff] at h
        obtain ⟨e1, h1, h2⟩ := h
        have len : ds.length = ts.length := by
          have : ∀ (ts : List Tgt) (ds : List D) (e e' : EvEnv), bindT.bindTs e ts ds = some e' → ds.length = ts.length := by
            intro ts
            induction ts with
            | nil => intro ds e e' h; cases ds <;> first | rfl | cases h
            | cons t ts ih =>
              intro ds e e' h
              cases ds with
              | nil => cases h
              | cons d ds =>
                simp only [bindT.bindTs, Option.bind_eq_some_iff] at h
                obtain ⟨_, _, h2⟩ := h
                simp [ih ds _ _ h2]
          exact this ts ds _ _ h2
        refine ⟨by simp [len], v, vs, rfl, bind_ok t (wk := false) h1 fr (.inl r1) (fun z => nomatch z) fun σ1 f1 hh1 => ?_⟩
        refine (binds_ok ts h2 f1 r2 fun σ2 f2 hh2 => k σ2 f2 fun own ho => ?_).2
        simp only [tgtsIn, Bool.and_eq_true] at ho
        rw [hh2 own ho.2, hh1 own ho.1]
end
theorem FR.wipe1 (f : FR G w0 H0 env σ w H st) (i : Nat) : FR G w0 H0 (env.set i none) (σ.set i none) w H st where
  ext := f.ext
  wr := f.wr
  len := by rw [List.length_set, List.length_set]; exact f.len
  sl := fun j s h => by
    by_cases e : i = j
    · subst e
      by_cases hi : i < env.length
      · rw [List.getElem?_set_self hi] at h; cases h
      · rw [List.getElem?_eq_none (by simpa using hi)] at h; cases h
    · rw [List.getElem?_set_ne e] at h
      have q := f.sl j s h
      obtain ⟨b, d'⟩ := s
      cases b with
      | false => obtain ⟨v', q1, q2⟩ := q; exact ⟨v', by rw [List.getElem?_set_ne e]; exact q1, q2⟩
      | true => obtain ⟨a, q1, q2⟩ := q; exact ⟨a, by rw [List.getElem?_set_ne e]; exact q1, q2⟩
  ap := fun j k d' e' hjk h1 h2 => by
    have ne : ∀ {j : Nat} {d'}, (env.set i none)[j]? = some (some (true, d')) → i ≠ j := fun {j d'} h z => by
      subst z
      by_cases hi : i < env.length
      · rw [List.getElem?_set_self hi] at h; cases h
      · rw [List.getElem?_eq_none (by simpa using hi)] at h; cases h
    have n1 := ne h1
    have n2 := ne h2
    rw [List.getElem?_set_ne n1] at h1 ⊢
    rw [List.getElem?_set_ne n2] at h2 ⊢
    exact f.ap j k d' e' hjk h1 h2
theorem FR.wipe (f : FR G w0 H0 env σ w H st) : ∀ vs : List Nat, FR G w0 H0 (wipeE env vs) (wipe σ vs) w H st
  | [] => f
  | v :: vs => (FR.wipe f vs).wipe1 v
end
/-! ### what is walked -/
/-- .. whatever is changed that is not frozen -/
def GoodLe (G : GC) (wk : Bool) (w : Wd) (H : Hp) (ds : List D) (J : It) : Prop := ∀ w1 H1 st1, Le w H w1 H1 → WRel G w1 H1 st1 → ∀ i : Nat,
  (∀ d, ds[i]? = some d → J.go i H1 ∧ ∀ x H', J.yld i H1 x H' → ∃ w', PExt w1 H1 w' H' ∧ RepW G wk w' H' d x) ∧ (ds.length ≤ i → J.stop i H1)
def GoodIt (G : GC) (wk : Bool) (w : Wd) (H : Hp) (ds : List D) (J : It) : Prop := ∀ w1 H1 st1, Ext w H w1 H1 → WRel G w1 H1 st1 → ∀ i : Nat,
  (∀ d, ds[i]? = some d → J.go i H1 ∧ ∀ x H', J.yld i H1 x H' → ∃ w', PExt w1 H1 w' H' ∧ RepW G wk w' H' d x) ∧ (ds.length ≤ i → J.stop i H1)
section
variable {G : GC} {w w1 : Wd} {H H1 : Hp} {st : HSt}
theorem Rep.sqP {d : D} {v : V} {ds : List D} (r : Rep G w H d v) (h : seqP d = some ds) : ∃ a vs, v = .ref a ∧ RepAll G w H ds vs ∧
    ((isTup d = false ∧ ∀ w1 H1, Le w H w1 H1 → SqL G.K H1 a vs) ∨ (isTup d = true ∧ ∀ w1 H1, Le w H w1 H1 → SqT G.K H1 a vs)) := by
  cases r with
  | lst f l a => cases h; exact ⟨_, _, rfl, a, .inl ⟨rfl, fun w1 H1 le => SqL.of ((le.eq _ f).trans l)⟩⟩
  | fl l a => cases h; exact ⟨_, _, rfl, a, .inl ⟨rfl, fun w1 H1 le => (l.mono le).sq⟩⟩
  | tup l a => cases h; exact ⟨_, _, rfl, a, .inr ⟨rfl, fun w1 H1 le => (l.mono le).sq⟩⟩
  | _ => cases h
theorem Le.refl : Le w H w H := ⟨fun _ h => h, fun _ _ => rfl, fun _ _ h => h⟩
end
section
variable {X : Cx} {g : GN} {ck : CK} {con : Nat → Option D} {C : CT} {N : List Str} {sc : Scope} {W : WX} {k : Nat} {w0 : Wd} {H0 : Hp}
variable {ea eb ec : EvEnv → HSt → R D} {a b c e tg : Expr}
abbrev TIvL (G : GC) (w0 : Wd) (H0 : Hp) (W : WX) (wk : Bool) (ev : EvEnv → HSt → R (List D)) : TI := TT_ G w0 H0 W (GoodLe G wk) ev
abbrev TIv (G : GC) (w0 : Wd) (H0 : Hp) (W : WX) (wk : Bool) (ev : EvEnv → HSt → R (List D)) : TI := TT_ G w0 H0 W (GoodIt G wk) ev
def iAny (K : PySem.W.Frag) (t : TE) : TI := fun σ H R => t σ H fun x H1 => (∃ x', x = .str x' ∧ R (Its x') H1) ∨ ∃ a, x = .ref a ∧ (((∃ xs, SqL K H1 a xs) ∧ R (Itl K a) H1) ∨ ((∃ xs, SqT K H1 a xs) ∧ R (Itt K a) H1))
theorem pi_any {t : TE} (hl : PE X e t) : PI X tg e (iAny X.K t) := by
  refine ⟨fun pins s σ H R I h => ?_⟩
  refine thn (hl.run pins s σ H _ I h) fun v s1 ⟨x, H1, I1, r1, q1⟩ => ?_
  rcases q1 with ⟨x', ex, q⟩ | ⟨a, e, q1⟩
  · subst ex
    obtain ⟨t, rfl⟩ := r1
    cases ha : x'.cps.all (· < 128)
    · exact wpAny_pyIter_wide ha (pi_one (tk := s1.toks) I1 _ (turn_str _ x' t "str_iterator" (.inr rfl)) ⟨_, Heap.get?_push_size _ rfl, rfl, rfl⟩ q)
    · exact wpAny_pyIter_ascii ha (pi_one (tk := s1.toks) I1 _ (turn_str _ x' t "str_ascii_iterator" (.inl rfl)) ⟨_, Heap.get?_push_size _ rfl, rfl, rfl⟩ q)
  subst e
  cases r1
  rcases q1 with ⟨⟨xs, hq⟩, q⟩ | ⟨⟨xs, hq⟩, q⟩
  · obtain ⟨its, rv, p, hz⟩ := I1.list hq
    refine wpAny_pyIter_list p.isList ?_
    refine ⟨s1.heap.objs.size, [s1.heap.objs.size], _, _, H1, rfl, I1.kept (t' := s1.toks) fun b o e => Heap.get?_push_of_some _ e, turn_list a _, ⟨_, Heap.get?_push_size _ rfl, rfl, rfl⟩, fun b hb => ?_, q⟩
    have e : b = s1.heap.objs.size := by simpa using hb
    subst e
    exact I1.fpOk (Nat.le_refl _) (I1.hok.fresh (Nat.le_refl _))
  · obtain ⟨its, rv, p, hz⟩ := I1.tuple hq
    refine wpAny_pyIter_tuple (show s1.heap.IsTuple a its.toArray from p) ?_
    refine ⟨s1.heap.objs.size, [s1.heap.objs.size], _, _, H1, rfl, I1.kept (t' := s1.toks) fun b o e => Heap.get?_push_of_some _ e, turn_tuple a _, ⟨_, Heap.get?_push_size _ rfl, rfl, rfl⟩, fun b hb => ?_, q⟩
    have e : b = s1.heap.objs.size := by simpa using hb
    subst e
    exact I1.fpOk (Nat.le_refl _) (I1.hok.fresh (Nat.le_refl _))
theorem goodL {G : GC} {w : Wd} {H : Hp} {st : HSt} {ds : List D} {vs : List V} {a : Addr} (wr : WRel G w H st) (r : RepAll G w H ds vs) (q : ∀ w1 H1, Le w H w1 H1 → SqL G.K H1 a vs) : GoodLe G false w H ds (Itl G.K a) := by
  intro w1 H1 st1 le wr1 i
  refine ⟨fun d e => ?_, fun h => ⟨vs, q _ _ le, by rw [← r.length]; exact h⟩⟩
  obtain ⟨v, ev, rv⟩ := r.get e
  refine ⟨⟨vs, v, q _ _ le, ev⟩, fun x' H' y => ?_⟩
  obtain ⟨rfl, y⟩ := y
  have := y vs (q _ _ le)
  rw [ev] at this; cases this
  exact ⟨w1, .refl, .inl (rv.mono le)⟩
theorem goodT {G : GC} {w : Wd} {H : Hp} {st : HSt} {ds : List D} {vs : List V} {a : Addr} (wr : WRel G w H st) (r : RepAll G w H ds vs) (q : ∀ w1 H1, Le w H w1 H1 → SqT G.K H1 a vs) : GoodLe G false w H ds (Itt G.K a) := by
  intro w1 H1 st1 le wr1 i
  refine ⟨fun d e => ?_, fun h => ⟨vs, q _ _ le, by rw [← r.length]; exact h⟩⟩
  obtain ⟨v, ev, rv⟩ := r.get e
  refine ⟨⟨vs, v, q _ _ le, ev⟩, fun x' H' y => ?_⟩
  obtain ⟨rfl, y⟩ := y
  have := y vs (q _ _ le)
  rw [ev] at this; cases this
  exact ⟨w1, .refl, .inl (rv.mono le)⟩
theorem goodS {G : GC} {w : Wd} {H : Hp} (s : List Nat) : GoodLe G false w H (s.map fun c => .str [c]) (Its ⟨s.toArray⟩) := by
  intro w1 H1 st1 le wr1 i
  refine ⟨fun d e => ?_, fun h => by show s.toArray.size ≤ i; simpa using h⟩
  rw [List.getElem?_map] at e
  cases q : s[i]? with
  | none => rw [q] at e; cases e
  | some c =>
    rw [q] at e
    cases e
    have hi : i < s.length := (List.getElem?_eq_some_iff.mp q).1
    refine ⟨by show i < s.toArray.size; simpa using hi, fun x' H' y => ?_⟩
    obtain ⟨rfl, c', e', rfl⟩ := y
    have e' : s.toArray[i]? = some c' := e'
    rw [List.getElem?_toArray, q] at e'
    cases e'
    exact ⟨w1, .refl, .inl (Rep.str [c])⟩
theorem i_seq (ha : PE X e (TEv (Gx X g) w0 H0 W <| ea)) : PI X tg e (TIvL (Gx X g) w0 H0 W false fun env st => (ea env st).bind fun d st => liftO (seqI d) st) := by
  refine PI.imp (pi_any ha) fun σ H R ⟨env, w, st, fr, y⟩ => T.seq fr y fun d v w1 H1 st1 _ fr1 _ r y1 => ?_
  cases q : seqI d with
  | none => rw [q] at y1; exact y1.elim
  | some ds =>
    rw [q] at y1
    by_cases hs : ∃ s, d = .str s
    · obtain ⟨s, rfl⟩ := hs
      cases q
      cases r
      exact .inl ⟨_, rfl, Yl.ok (a := s.map fun c => D.str [c]) y1 fr1.wr (goodS s)⟩
    · have q : seqP d = some ds := by
        cases d <;> first | exact q | exact absurd ⟨_, rfl⟩ hs
      obtain ⟨a, vs, rfl, ra, hq⟩ := r.sqP q
      refine .inr ⟨a, rfl, ?_⟩
      rcases hq with ⟨_, hq⟩ | ⟨_, hq⟩
      · exact .inl ⟨⟨vs, hq _ _ .refl⟩, Yl.ok (a := ds) y1 fr1.wr (goodL fr1.wr ra hq)⟩
      · exact .inr ⟨⟨vs, hq _ _ .refl⟩, Yl.ok (a := ds) y1 fr1.wr (goodT fr1.wr ra hq)⟩
theorem enumD_get : ∀ {ds : List D} {n i : Nat} {d : D}, (enumD n ds)[i]? = some d → ∃ x, ds[i]? = some x ∧ d = .tup [.int ((n + i : Nat) : Int), x]
  | [], n, i, d, h => by simp [enumD] at h
  | x :: ds, n, 0, d, h => by simp [enumD] at h; exact ⟨x, rfl, by rw [← h]; rfl⟩
  | x :: ds, n, i + 1, d, h => by
    simp only [enumD, List.getElem?_cons_succ] at h
    obtain ⟨y, e1, e2⟩ := enumD_get h
    exact ⟨y, by simpa using e1, by rw [e2]; congr 3; omega⟩
theorem enumD_len : ∀ (ds : List D) (n : Nat), (enumD n ds).length = ds.length
  | [], _ => rfl
  | _ :: ds, n => by simp [enumD, enumD_len ds]
theorem i_enum {elts : List Expr} {kk : Nat} {tpos p pos : Pos} {x : Str} (gd : Good X g ck con C N sc W k) (hx : globB sc x "enumerate" = true) (hst : notStar e = true) (ha : PE X e (TEv (Gx X g) w0 H0 W <| ea)) :
    PI X (.Tuple elts kk tpos) (.Call (.Name x p) [e] [] pos) (TIvL (Gx X g) w0 H0 W true fun env st => (ea env st).bind fun d st => if isTup d then .bad else (liftO (seqP d) st).bind fun ds st => .ok (enumD 0 ds) st) := by
  obtain ⟨rfl, h2, h3⟩ := globB_ok hx
  refine PI.imp (pi_enum (gd.gl h2) gd.mg.enum (pa_cons ha pa_nil (star_ok hst _ _)) (star_ok hst _ _)) fun σ H R ⟨env, w, st, fr, y⟩ => ?_
  refine T.seq fr y fun d v w1 H1 st1 _ fr1 _ r y1 => ?_
  split at y1
  · exact y1.elim
  · rename_i ht
    cases q : seqP d with
    | none => rw [q] at y1; exact y1.elim
    | some ds =>
      rw [q] at y1
      obtain ⟨a, vs, rfl, ra, hq⟩ := r.sqP q
      rcases hq with ⟨_, hq⟩ | ⟨z, _⟩
      · refine ⟨a, vs, rfl, hq _ _ .refl, Yl.ok (a := enumD 0 ds) y1 fr1.wr ?_⟩
        intro w2 H2 st2 le wr2 i
        refine ⟨fun d e => ?_, fun h => ⟨vs, hq _ _ le, by rw [← ra.length, ← enumD_len ds 0]; exact h⟩⟩
        obtain ⟨z, ez, rfl⟩ := enumD_get e
        obtain ⟨v, ev, rv⟩ := ra.get ez
        refine ⟨⟨vs, v, hq _ _ le, ev⟩, fun x' H' yy => ?_⟩
        obtain ⟨T, u, rfl, hT, rfl, yy⟩ := yy
        have := yy vs (hq _ _ le)
        rw [ev] at this; cases this
        have pe : PExt w2 H2 w2 (upd H2 T (.tup [.int (i : Nat), v])) := ⟨fun _ h => h, rfl, fun b o h => by rw [upd_ne (ne_of_none h hT)]; exact h, fun _ h => .inl h⟩
        refine ⟨w2, pe, .inr ⟨rfl, _, T, _, rfl, rfl, SqT.of upd_same, .cons ?_ (.cons ((rv.mono le).mono (pe.ext.le wr2)) .nil)⟩⟩
        rw [Nat.zero_add]
        exact .int _
      · exact absurd z ht
theorem zipD_get : ∀ {ds es : List D} {i : Nat} {d : D}, (zipD ds es)[i]? = some d → ∃ x y, ds[i]? = some x ∧ es[i]? = some y ∧ d = .tup [x, y]
  | [], _, i, d, h => by simp [zipD] at h
  | _ :: _, [], i, d, h => by simp [zipD] at h
  | x :: ds, y :: es, 0, d, h => by simp [zipD] at h; exact ⟨x, y, rfl, rfl, h.symm⟩
  | x :: ds, y :: es, i + 1, d, h => by
    simp only [zipD, List.getElem?_cons_succ] at h
    obtain ⟨a, b, e1, e2, e3⟩ := zipD_get h
    exact ⟨a, b, by simpa using e1, by simpa using e2, e3⟩
theorem zipD_len : ∀ {ds es : List D} {i : Nat}, (zipD ds es).length ≤ i → ds.length ≤ i ∨ es.length ≤ i
  | [], _, i, h => .inl (Nat.zero_le _)
  | _ :: _, [], i, h => .inr (Nat.zero_le _)
  | x :: ds, y :: es, 0, h => by simp [zipD] at h
  | x :: ds, y :: es, i + 1, h => by
    simp only [zipD, List.length_cons, Nat.add_le_add_iff_right] at h ⊢
    exact zipD_len h
theorem i_zip {elts : List Expr} {kk : Nat} {tpos p pos : Pos} {x : Str} (gd : Good X g ck con C N sc W k) (hx : globB sc x "zip" = true) (hst : notStar a = true) (hst2 : notStar b = true) (ha : PE X a (TEv (Gx X g) w0 H0 W <| ea)) (hb : PE X b (TEv (Gx X g) w0 H0 W <| eb)) :
    PI X (.Tuple elts kk tpos) (.Call (.Name x p) [a, b] [] pos) (TIvL (Gx X g) w0 H0 W true fun env st => (ea env st).bind fun d st => (eb env st).bind fun d' st => if isTup d == isTup d' then (liftO (seqP d) st).bind fun ds st => (liftO (seqP d') st).bind fun ds' st => .ok (zipD ds ds') st else .bad) := by
  obtain ⟨rfl, h2, h3⟩ := globB_ok hx
  refine PI.imp (RZ.pi_zipA (gd.gl h2) gd.mg.zip (pa_cons ha (pa_cons hb pa_nil (star_ok hst2 _ _)) (star_ok hst _ _)) (star_ok hst _ _) (few_ok (es := [b]) (by simp [hst2]) pos X.env)) fun σ H R ⟨env, w, st, fr, y⟩ => ?_
  refine T.seq fr y fun d v w1 H1 st1 _ fr1 _ r y1 => ?_
  refine T.seq fr1 y1 fun d' v' w2 H2 st2 _ fr2 x2 r2 y2 => ?_
  have r1 := r.mono (x2.le fr1.wr)
  split at y2
  · rename_i ht
    cases q : seqP d with
    | none => rw [q] at y2; exact y2.elim
    | some ds =>
      cases q' : seqP d' with
      | none => rw [q, q'] at y2; exact y2.elim
      | some ds' =>
        rw [q, q'] at y2
        obtain ⟨a1, vs, rfl, ra, hq⟩ := r1.sqP q
        obtain ⟨a2, vs', rfl, ra', hq'⟩ := r2.sqP q'
        refine ⟨a1, a2, vs, vs', rfl, ?_⟩
        have fin : ∀ (w3 : Wd) (H3 : Hp) (st3 : HSt) (i : Nat) (d0 : D) (T : Addr) (u u' : V), Le w2 H2 w3 H3 → WRel (Gx X g) w3 H3 st3 → (zipD ds ds')[i]? = some d0 → vs[i]? = some u → vs'[i]? = some u' → H3 T = none →
            ∃ w', PExt w3 H3 w' (upd H3 T (.tup [u, u'])) ∧ RepW (Gx X g) true w' (upd H3 T (.tup [u, u'])) d0 (.ref T) := by
          intro w3 H3 st3 i d0 T u u' le wr3 e eu eu' hT
          obtain ⟨z, z', ez, ez', rfl⟩ := zipD_get e
          obtain ⟨s1, es1, rs1⟩ := ra.get ez
          obtain ⟨s2, es2, rs2⟩ := ra'.get ez'
          rw [eu] at es1; cases es1
          rw [eu'] at es2; cases es2
          have pe : PExt w3 H3 w3 (upd H3 T (.tup [u, u'])) := ⟨fun _ h => h, rfl, fun b o h => by rw [upd_ne (ne_of_none h hT)]; exact h, fun _ h => .inl h⟩
          exact ⟨w3, pe, .inr ⟨rfl, _, T, _, rfl, rfl, SqT.of upd_same, .cons ((rs1.mono le).mono (pe.ext.le wr3)) (.cons ((rs2.mono le).mono (pe.ext.le wr3)) .nil)⟩⟩
        rcases hq with ⟨t1, hq⟩ | ⟨t1, hq⟩
        · rcases hq' with ⟨_, hq'⟩ | ⟨t2, _⟩
          · refine .inl ⟨hq _ _ .refl, hq' _ _ .refl, Yl.ok (a := zipD ds ds') y2 fr2.wr ?_⟩
            intro w3 H3 st3 le wr3 i
            refine ⟨fun d0 e => ?_, fun h => ⟨vs, vs', hq _ _ le, hq' _ _ le, by rw [← ra.length, ← ra'.length]; exact zipD_len h⟩⟩
            obtain ⟨z, z', ez, ez', _⟩ := zipD_get e
            obtain ⟨u, eu, _⟩ := ra.get ez
            obtain ⟨u', eu', _⟩ := ra'.get ez'
            refine ⟨⟨vs, vs', u, u', hq _ _ le, hq' _ _ le, eu, eu'⟩, fun x' H' yy => ?_⟩
            obtain ⟨T, s1, s2, rfl, hT, rfl, y1', y2'⟩ := yy
            have e1 := y1' vs (hq _ _ le); rw [eu] at e1; cases e1
            have e2 := y2' vs' (hq' _ _ le); rw [eu'] at e2; cases e2
            exact fin w3 H3 st3 i d0 T u u' le wr3 e eu eu' hT
          · rw [t1, t2] at ht; cases ht
        · rcases hq' with ⟨t2, _⟩ | ⟨_, hq'⟩
          · rw [t1, t2] at ht; cases ht
          · refine .inr ⟨hq _ _ .refl, hq' _ _ .refl, Yl.ok (a := zipD ds ds') y2 fr2.wr ?_⟩
            intro w3 H3 st3 le wr3 i
            refine ⟨fun d0 e => ?_, fun h => ⟨vs, vs', hq _ _ le, hq' _ _ le, by rw [← ra.length, ← ra'.length]; exact zipD_len h⟩⟩
            obtain ⟨z, z', ez, ez', _⟩ := zipD_get e
            obtain ⟨u, eu, _⟩ := ra.get ez
            obtain ⟨u', eu', _⟩ := ra'.get ez'
            refine ⟨⟨vs, vs', u, u', hq _ _ le, hq' _ _ le, eu, eu'⟩, fun x' H' yy => ?_⟩
            obtain ⟨T, s1, s2, rfl, hT, rfl, y1', y2'⟩ := yy
            have e1 := y1' vs (hq _ _ le); rw [eu] at e1; cases e1
            have e2 := y2' vs' (hq' _ _ le); rw [eu'] at e2; cases e2
            exact fin w3 H3 st3 i d0 T u u' le wr3 e eu eu' hT
  · exact y2.elim
theorem rangeD_get : ∀ {n : Nat} {j : Int} {i : Nat} {d : D}, (rangeD n j)[i]? = some d → i < n ∧ d = .int (j + i)
  | 0, j, i, d, h => by simp [rangeD] at h
  | n + 1, j, 0, d, h => by simp [rangeD] at h; exact ⟨Nat.succ_pos _, by rw [← h]; simp⟩
  | n + 1, j, i + 1, d, h => by
    simp only [rangeD, List.getElem?_cons_succ] at h
    obtain ⟨a, b⟩ := rangeD_get h
    exact ⟨by omega, by rw [b]; congr 1; omega⟩
theorem rangeD_len : ∀ (n : Nat) (j : Int), (rangeD n j).length = n
  | 0, _ => rfl
  | n + 1, j => by simp [rangeD, rangeD_len n]
theorem i_range {p pos : Pos} {x : Str} (gd : Good X g ck con C N sc W k) (hx : globB sc x "range" = true) (hst : notStar e = true) (ha : PE X e (TEv (Gx X g) w0 H0 W <| ea)) :
    PI X tg (.Call (.Name x p) [e] [] pos) (TIvL (Gx X g) w0 H0 W false fun env st => (ea env st).bind fun d st => match d with | .int i => if -4611686018427387904 ≤ i ∧ i < 4611686018427387904 then .ok (rangeD i.toNat 0) st else .bad | _ => .bad) := by
  obtain ⟨rfl, h2, h3⟩ := globB_ok hx
  refine PI.imp (pi_range1 (gd.gl h2) gd.mg.range (pa_cons ha pa_nil (star_ok hst _ _)) (star_ok hst _ _)) fun σ H R ⟨env, w, st, fr, y⟩ => ?_
  refine T.seq fr y fun d v w1 H1 st1 _ fr1 _ r y1 => ?_
  cases d with
  | int i =>
    simp only at y1
    split at y1
    · rename_i hi
      cases rep_int r
      refine ⟨i, rfl, by omega, by omega, Yl.ok (a := rangeD i.toNat 0) y1 fr1.wr ?_⟩
      intro w2 H2 st2 x2 wr2 j
      refine ⟨fun d e => ?_, fun h => by rw [rangeD_len] at h; exact h⟩
      obtain ⟨h1, rfl⟩ := rangeD_get e
      refine ⟨h1, fun x' H' yy => ?_⟩
      obtain ⟨rfl, rfl⟩ := yy
      exact ⟨w2, .refl, .inl (.int _)⟩
    · exact y1.elim
  | _ => exact y1.elim
theorem PI.ofLe {wk : Bool} {ei : EvEnv → HSt → R (List D)} (h : PI X tg e (TIvL (Gx X g) w0 H0 W wk ei)) : PI X tg e (TIv (Gx X g) w0 H0 W wk ei) := by
  refine PI.imp h fun σ H R ⟨env, w, st, fr, y⟩ => ⟨env, w, st, fr, ?_⟩
  cases q : ei env st with
  | exc c s => rw [q] at y; exact y
  | bad => rw [q] at y; exact y
  | ok d s =>
    rw [q] at y
    exact fun w' H' J x wr hJ => y w' H' J x wr fun w1 H1 st1 x1 => hJ w1 H1 st1 (x1.le wr)
end
end Ev
namespace Ev
open PySem PySem.Spec PyProof.Rows L2
section
variable {G : GC} {w0 : Wd} {H0 : Hp} {env : EvEnv} {σ : L2.St} {w w1 : Wd} {H H1 : Hp} {st st1 : HSt}
theorem FR.h0 (f : FR G w0 H0 env σ w H st) {a : Addr} (h : Fre H a) : Fre H0 a := f.ext.fre h
theorem slot_app {env : EvEnv} {s : Sl} {i : Nat} {x} (h : (env ++ [s])[i]? = some x) : (i < env.length ∧ env[i]? = some x) ∨ (i = env.length ∧ x = s) := by
  by_cases hi : i < env.length
  · rw [List.getElem?_append_left hi] at h
    exact .inl ⟨hi, h⟩
  · rw [List.getElem?_append_right (by omega)] at h
    have : i - env.length = 0 := by
      cases q : i - env.length with
      | zero => rfl
      | succ n => rw [q] at h; simp at h
    rw [this] at h
    simp at h
    exact .inr ⟨by omega, h.symm⟩
theorem st_app {σ : L2.St} {v : Option V} {i : Nat} (h : i < σ.length) : (σ ++ [v])[i]? = σ[i]? := List.getElem?_append_left h
theorem st_last {σ : L2.St} {v : Option V} : (σ ++ [v])[σ.length]? = some v := by simp
/-- a new own thing, as one more slot -/
theorem FR.alloc (f : FR G w0 H0 env σ w H st) {p : Addr} {o : HO} {d : D} (hp : H p = none) (ho : OwnAt G w (upd H p o) d p) : FR G w0 H0 (env ++ [some (true, d)]) (σ ++ [some (.ref p)]) w (upd H p o) st := by
  have le : Le w H w (upd H p o) := ⟨fun _ h => h, fun a h => by rw [upd_ne (fun z => f.wr.fz a h (by rw [z]; exact hp))], fun _ _ h => h⟩
  have pl : p ∉ w.L := fun z => f.wr.Ltrk z hp
  have pf : ¬ w.F p := fun z => f.wr.fz p z hp
  have ex : Ext w H w (upd H p o) := ⟨fun _ h => h, fun _ _ h => h, fun a u h _ _ => by rw [upd_ne (ne_of_none h hp)]; exact h, fun _ h => .inl h, fun _ h => .inl h, fun a u h n => ⟨u, by rw [upd_ne (ne_of_none h hp)]; exact h, n⟩⟩
  have wr' : WRel G w (upd H p o) st := ⟨fun a h => by rw [le.eq a h]; exact f.wr.fz a h, f.wr.sep, f.wr.nd, f.wr.len, fun n hd h => by
    obtain ⟨a, e, q⟩ := f.wr.at_ n hd h
    exact ⟨a, e, q.mono le (by rw [upd_ne (fun z => pl (by rw [← z]; exact List.mem_of_getElem? e))])⟩, fun a o h e => f.wr.nt a o h (by rw [← le.eq a h]; exact e), tabs_new f.wr.tb hp⟩
  have f' := f.step ex wr'
  refine ⟨f'.ext, wr', by rw [List.length_append, List.length_append, f.len]; rfl, fun i s h => ?_, fun i j d1 d2 hij h1 h2 => ?_⟩
  · rcases slot_app h with ⟨hi, h⟩ | ⟨hi, h⟩
    · have q := f'.sl i s h
      have hσ : i < σ.length := by rw [← f.len]; exact hi
      obtain ⟨b, d'⟩ := s
      cases b with
      | false => obtain ⟨v, q1, q2⟩ := q; exact ⟨v, by rw [st_app hσ]; exact q1, q2⟩
      | true => obtain ⟨a, q1, q2⟩ := q; exact ⟨a, by rw [st_app hσ]; exact q1, q2⟩
    · cases h
      refine ⟨p, by rw [hi, f.len]; exact st_last, pf, pl, f.h0 (.of hp), ho⟩
  · have own_ne : ∀ {i d'}, i < env.length → env[i]? = some (some (true, d')) → (σ ++ [some (V.ref p)])[i]? ≠ some (some (.ref p)) := fun {i d'} hi h z => by
      rw [st_app (by rw [← f.len]; exact hi)] at z
      obtain ⟨a, q1, _, _, _, q5⟩ := f.sl i _ h
      rw [q1] at z
      cases z
      exact q5.trk hp
    rcases slot_app h1 with ⟨hi, h1⟩ | ⟨hi, h1⟩
    · rcases slot_app h2 with ⟨hj, h2⟩ | ⟨hj, h2⟩
      · rw [st_app (by rw [← f.len]; exact hi), st_app (by rw [← f.len]; exact hj)]
        exact f.ap i j d1 d2 hij h1 h2
      · rw [hj, f.len, st_last]
        exact own_ne hi h1
    · rcases slot_app h2 with ⟨hj, h2⟩ | ⟨hj, h2⟩
      · rw [hi, f.len, st_last]
        exact (own_ne hj h2).symm
      · omega
/-- the slots ahead -/
theorem FR.init {s : Sl} {v : Option V} (f : FR G w0 H0 (env ++ [s]) (σ ++ [v]) w H st) : FR G w0 H0 env σ w H st := by
  have len : env.length = σ.length := by have := f.len; simpa using this
  refine ⟨f.ext, f.wr, len, fun i s' h => ?_, fun i j d e hij h1 h2 => ?_⟩
  · have hi := (List.getElem?_eq_some_iff.mp h).1
    have q := f.sl i s' (by rw [List.getElem?_append_left hi]; exact h)
    obtain ⟨b, d'⟩ := s'
    cases b with
    | false => obtain ⟨v, q1, q2⟩ := q; exact ⟨v, by rw [st_app (by omega)] at q1; exact q1, q2⟩
    | true => obtain ⟨a, q1, q2⟩ := q; exact ⟨a, by rw [st_app (by omega)] at q1; exact q1, q2⟩
  · have hi := (List.getElem?_eq_some_iff.mp h1).1
    have hj := (List.getElem?_eq_some_iff.mp h2).1
    have q := f.ap i j d e hij (by rw [List.getElem?_append_left hi]; exact h1) (by rw [List.getElem?_append_left hj]; exact h2)
    rw [st_app (by omega), st_app (by omega)] at q
    exact q
/-- the last slot goes to another place -/
theorem FR.move {s : Bool × D} {v : V} (f : FR G w0 H0 (env ++ [some s]) (σ ++ [some v]) w H st) {i : Nat} (hi : i < env.length) : FR G w0 H0 (env.set i (some s)) (σ.set i (some v)) w H st := by
  have f0 := f.init
  have hσ : i < σ.length := by rw [← f0.len]; exact hi
  have last := f.sl env.length s (by simp)
  rw [show env.length = σ.length from f0.len] at last
  have lastv : ∀ {a}, (σ ++ [some v])[σ.length]? = some (some a) → v = a := fun {a} h => by rw [st_last] at h; cases h; rfl
  refine ⟨f.ext, f.wr, by rw [List.length_set, List.length_set]; exact f0.len, fun j s' h => ?_, fun j k d e hjk h1 h2 => ?_⟩
  · by_cases e : i = j
    · subst e
      rw [List.getElem?_set_self hi] at h
      cases h
      obtain ⟨b, d⟩ := s
      cases b with
      | false => obtain ⟨v', q1, q2⟩ := last; cases lastv q1; exact ⟨v, by rw [List.getElem?_set_self hσ], q2⟩
      | true => obtain ⟨a, q1, q2⟩ := last; have := lastv q1; subst this; exact ⟨a, by rw [List.getElem?_set_self hσ], q2⟩
    · rw [List.getElem?_set_ne e] at h
      have q := f0.sl j s' h
      obtain ⟨b, d'⟩ := s'
      cases b with
      | false => obtain ⟨v', q1, q2⟩ := q; exact ⟨v', by rw [List.getElem?_set_ne e]; exact q1, q2⟩
      | true => obtain ⟨a, q1, q2⟩ := q; exact ⟨a, by rw [List.getElem?_set_ne e]; exact q1, q2⟩
  · have key : ∀ {j d'}, i ≠ j → (env.set i (some s))[j]? = some (some (true, d')) → ∀ e, some s = some (true, e) → σ[j]? ≠ some (some v) := fun {j d'} hne h e hs z => by
      rw [List.getElem?_set_ne hne] at h
      have hj := (List.getElem?_eq_some_iff.mp h).1
      have := f.ap j env.length d' e (by omega) (by rw [List.getElem?_append_left hj]; exact h) (by simp [hs])
      rw [st_app (by rw [← f0.len]; exact hj), f0.len, st_last] at this
      exact this z
    by_cases e1 : i = j
    · subst e1
      rw [List.getElem?_set_self hi] at h1
      have h1' : some s = some (true, d) := by cases h1; rfl
      rw [List.getElem?_set_self hσ, List.getElem?_set_ne hjk]
      exact (key hjk h2 d h1').symm
    · by_cases e2 : i = k
      · subst e2
        rw [List.getElem?_set_self hi] at h2
        have h2' : some s = some (true, e) := by cases h2; rfl
        rw [List.getElem?_set_self hσ, List.getElem?_set_ne e1]
        exact key e1 h1 e h2'
      · rw [List.getElem?_set_ne e1] at h1 ⊢
        rw [List.getElem?_set_ne e2] at h2 ⊢
        exact f0.ap j k d e hjk h1 h2
theorem FR.write (f : FR G w0 H0 env σ w H st) {j : Nat} {d d' : D} {a : Addr} {o : HO} (h : env[j]? = some (some (true, d))) (hσ : σ[j]? = some (some (.ref a))) (ho : OwnAt G w (upd H a o) d' a) :
    FR G w0 H0 (env.set j (some (true, d'))) σ w (upd H a o) st := by
  obtain ⟨a', q1, q2, q3, q4, q5⟩ := f.sl j _ h
  rw [hσ] at q1
  cases q1
  have hj := (List.getElem?_eq_some_iff.mp h).1
  have le : Le w H w (upd H a o) := ⟨fun _ h => h, fun b h => by rw [upd_ne (fun z => q2 (by rw [← z]; exact h))], fun _ _ h => h⟩
  obtain ⟨ox, hx, hx2⟩ := q5.pl
  refine ⟨⟨f.ext.F, f.ext.L, fun b u h hn ht => by rw [upd_ne (fun z => by rw [z] at h; exact q4 u h ht)]; exact f.ext.same b u h hn ht, f.ext.newF, f.ext.newL, fun b u h n => ?_⟩, ⟨fun b hb => ?_, f.wr.sep, f.wr.nd, f.wr.len, fun n hd h => ?_, fun b o h e => f.wr.nt b o h (by rw [← le.eq b h]; exact e), tabs_write f.wr.tb hx hx2⟩, by rw [List.length_set]; exact f.len, fun i s hi => ?_, fun i k d1 d2 hik h1 h2 => ?_⟩
  · by_cases e : b = a
    · subst e; exact ho.nt
    · rw [upd_ne e]; exact f.ext.there b u h n
  · rw [upd_ne (fun z => q2 (by rw [← z]; exact hb))]; exact f.wr.fz b hb
  · obtain ⟨b, e, q⟩ := f.wr.at_ n hd h
    exact ⟨b, e, q.mono le (by rw [upd_ne (fun z => q3 (by rw [← z]; exact List.mem_of_getElem? e))])⟩
  · by_cases e : j = i
    · subst e
      rw [List.getElem?_set_self hj] at hi
      cases hi
      exact ⟨a, hσ, q2, q3, q4, ho⟩
    · rw [List.getElem?_set_ne e] at hi
      have q := f.sl i s hi
      obtain ⟨b, dd⟩ := s
      cases b with
      | false => obtain ⟨v, z1, z2⟩ := q; exact ⟨v, z1, z2.mono le⟩
      | true =>
        obtain ⟨a', z1, z2, z3, z4, z5⟩ := q
        refine ⟨a', z1, z2, z3, z4, z5.mono le ?_⟩
        have : a' ≠ a := fun z => f.ap i j dd d (Ne.symm e) hi h (by rw [z1, hσ, z])
        rw [upd_ne this]
  · have back : ∀ {i d1}, (env.set j (some (true, d')))[i]? = some (some (true, d1)) → ∃ d2, env[i]? = some (some (true, d2)) := fun {i d1} hh => by
      by_cases e : j = i
      · subst e; exact ⟨d, h⟩
      · rw [List.getElem?_set_ne e] at hh; exact ⟨d1, hh⟩
    obtain ⟨_, b1⟩ := back h1
    obtain ⟨_, b2⟩ := back h2
    exact f.ap i k _ _ hik b1 b2
/-- an own thing is shown to others -/
theorem FR.freeze (f : FR G w0 H0 env σ w H st) {j : Nat} {d : D} (h : env[j]? = some (some (true, d))) :
    ∃ a, σ[j]? = some (some (.ref a)) ∧ FR G w0 H0 (env.set j (some (false, d))) σ (w.frz a) H st ∧ Rep G (w.frz a) H d (.ref a) ∧ ¬ w.F a ∧ a ∉ w.L := by
  obtain ⟨a, q1, q2, q3, q4, q5⟩ := f.sl j _ h
  have hj := (List.getElem?_eq_some_iff.mp h).1
  have le : Le w H (w.frz a) H := ⟨fun _ h => .inl h, fun _ _ => rfl, fun _ _ h => h⟩
  have rp : Rep G (w.frz a) H d (.ref a) := by
    cases d with
    | lst ds => obtain ⟨vs, z1, z2⟩ := q5; exact .lst (.inr rfl) z1 (z2.mono le)
    | dk ks vs => obtain ⟨ws, z1, z2, z3⟩ := q5; exact .dk (.inr rfl) z1 z2 (z3.mono le)
    | _ => exact q5.elim
  refine ⟨a, q1, ⟨⟨fun b h => .inl (f.ext.F b h), f.ext.L, f.ext.same, fun b h => ?_, f.ext.newL, f.ext.there⟩, ⟨fun b h => ?_, fun b h z => ?_, f.wr.nd, f.wr.len, fun n hd h => ?_, fun b o h e => ?_, f.wr.tb⟩, by rw [List.length_set]; exact f.len, fun i s hi => ?_, fun i k d1 d2 hik h1 h2 => ?_⟩, rp, q2, q3⟩
  · rcases h with h | h
    · exact f.ext.newF b h
    · subst h; exact .inr q4
  · rcases h with h | h
    · exact f.wr.fz b h
    · subst h; exact q5.trk
  · rcases z with z | z
    · exact f.wr.sep b h z
    · subst z; exact q3 h
  · obtain ⟨b, e, q⟩ := f.wr.at_ n hd h
    exact ⟨b, e, q.mono le rfl⟩
  · rcases h with h | h
    · exact f.wr.nt b o h e
    · subst h
      obtain ⟨o', e', n⟩ := q5.nt
      rw [e] at e'; cases e'; exact n
  · by_cases e : j = i
    · subst e
      rw [List.getElem?_set_self hj] at hi
      cases hi
      exact ⟨.ref a, q1, rp⟩
    · rw [List.getElem?_set_ne e] at hi
      have q := f.sl i s hi
      obtain ⟨b, dd⟩ := s
      cases b with
      | false => obtain ⟨v, z1, z2⟩ := q; exact ⟨v, z1, z2.mono le⟩
      | true =>
        obtain ⟨a', z1, z2, z3, z4, z5⟩ := q
        have ne : a' ≠ a := fun z => f.ap i j dd d (Ne.symm e) hi h (by rw [z1, q1, z])
        exact ⟨a', z1, fun z => z.elim z2 ne, z3, z4, z5.mono le rfl⟩
  · have back : ∀ {i d1}, (env.set j (some (false, d)))[i]? = some (some (true, d1)) → env[i]? = some (some (true, d1)) := fun {i d1} hh => by
      by_cases e : j = i
      · subst e; rw [List.getElem?_set_self hj] at hh; cases hh
      · rw [List.getElem?_set_ne e] at hh; exact hh
    exact f.ap i k _ _ hik (back h1) (back h2)
end
/-! ### fresh results: own, as one more slot -/
section
variable (G : GC) (w0 : Wd) (H0 : Hp) (W : WX)
def YlO (env : EvEnv) (σ : L2.St) (w : Wd) (H : Hp) (r : R D) (Q : VK) : Prop := match r with
  | .ok d st' => ∀ w' H' a, Ext w H w' H' → Fre H a → FR G w0 H0 (env ++ [some (true, d)]) (σ ++ [some (.ref a)]) w' H' st' → Q (.ref a) H'
  | .exc c st' => ∀ w' H', Ext w H w' H' → WRel G w' H' st' → W (.ref (G.cls c)) none σ H'
  | .bad => False
def TOv (ev : EvEnv → HSt → R D) : TE := fun σ H Q => ∃ env w st, FR G w0 H0 env σ w H st ∧ YlO G w0 H0 W env σ w H (ev env st) Q
end
/-- a fresh result may be shown -/
theorem PE.ofOwn {X : Cx} {G : GC} {w0 : Wd} {H0 : Hp} {W : WX} {e : Expr} {ev : EvEnv → HSt → R D} (h : PE X e (TOv G w0 H0 W ev)) : PE X e (TEv G w0 H0 W ev) := by
  refine PE.imp h fun σ H Q ⟨env, w, st, fr, y⟩ => ⟨env, w, st, fr, ?_⟩
  cases q : ev env st with
  | exc c s => rw [q] at y; exact y
  | bad => rw [q] at y; exact y
  | ok d s =>
    rw [q] at y
    intro w' H' a x hn f
    obtain ⟨a', e1, f2, r, n1, n2⟩ := f.freeze (j := env.length) (d := d) (by simp)
    have : a' = a := by
      have len : env.length = σ.length := by have := f.len; simpa using this
      rw [len, st_last] at e1; cases e1; rfl
    subst this
    refine y (w'.frz a') H' (.ref a') ⟨fun b h => .inl (x.F b h), x.L, x.same, fun b h => ?_, x.newL, x.there⟩ f2.wr r
    rcases h with h | h
    · exact x.newF b h
    · subst h; exact .inr hn
section
variable {X : Cx} {g : GN} {ck : CK} {con : Nat → Option D} {C : CT} {N : List Str} {sc : Scope} {W : WX} {k : Nat} {w0 : Wd} {H0 : Hp}
variable {ea eb ec : EvEnv → HSt → R D} {a b c e tg : Expr}
/-- a written list, as one's own -/
theorem n_lst {es : List Expr} {ev : EvEnv → HSt → R (List D)} {pos : Pos} (h : PA X es (TAv (Gx X g) w0 H0 W ev)) (hl : ∀ env st ds st', ev env st = .ok ds st' → ds.length ≤ 1000) : PE X (.List es pos) (TOv (Gx X g) w0 H0 W fun env st => (ev env st).bind fun ds st => .ok (.lst ds) st) := by
  refine PE.imp (pe_lst h) fun σ H Q ⟨env, w, st, fr, y⟩ => ⟨env, w, st, fr, ?_⟩
  dsimp only at y ⊢
  cases q : ev env st with
  | exc c s => rw [q] at y; exact y
  | bad => rw [q] at y; exact y
  | ok ds s =>
    rw [q] at y
    intro w' H' vs x wr r
    refine ⟨by rw [← r.length, sizeLine_eq]; have := hl _ _ _ _ q; omega, fun p hp => ?_⟩
    have f1 := fr.step x wr
    have hpH : Fre H p := x.fre (.of hp)
    have f2 := f1.alloc (o := .lst vs) (d := .lst ds) hp ⟨vs, upd_same, r.mono ⟨fun _ h => h, fun a h => by rw [upd_ne (fun z => f1.wr.fz a h (by rw [z]; exact hp))], fun _ _ h => h⟩⟩
    refine y w' _ p (x.trans ⟨fun _ h => h, fun _ _ h => h, fun a o h _ _ => by rw [upd_ne (ne_of_none h hp)]; exact h, fun _ h => .inl h, fun _ h => .inl h, fun a u h n => ⟨u, by rw [upd_ne (ne_of_none h hp)]; exact h, n⟩⟩) hpH f2
/-- an empty dict -/
theorem n_dct {pos : Pos} : PE X (.Dict [] [] pos) (TOv (Gx X g) w0 H0 W fun env st => .ok (.dk [] []) st) := by
  refine PE.imp pe_dnewK fun σ H Q ⟨env, w, st, fr, y⟩ p hp => ?_
  have f2 := fr.alloc (o := .dK []) (d := .dk [] []) hp ⟨[], upd_same, rfl, .nil⟩
  refine y w _ p ⟨fun _ h => h, fun _ _ h => h, fun a o h _ _ => by rw [upd_ne (ne_of_none h hp)]; exact h, fun _ h => .inl h, fun _ h => .inl h, fun a u h n => ⟨u, by rw [upd_ne (ne_of_none h hp)]; exact h, n⟩⟩ (.of hp) f2
/-! ### comprehensions -/
theorem Good.blk (gd : Good X g ck con C N sc W k) (s : Shared) (H : Hp) (scope : Scope) (C' : Addr) (cl : List (Str × Addr)) (fp : List Addr) :
    Good (X.blk s H scope (compEnvC scope cl C' X.env) fp) g ck con C N (relR scope sc) (fun _ _ _ _ => False) k where
  hN := gd.hN
  nd := gd.nd
  hs := by
    show relabel scope X.env = relR scope sc
    unfold relabel relR Env.kindOf
    rw [gd.hs]
    congr 1
    apply List.map_congr_left
    intro p _
    obtain ⟨n, k⟩ := p
    simp only [lookN_eq]
  calm := gd.calm
  room := gd.room
  tk := takesN0
  mg := ⟨gd.mg.bi, gd.mg.isi, gd.mg.enum, gd.mg.zip, gd.mg.range, gd.mg.bool, gd.mg.con, gd.mg.kd, gd.mg.set_⟩
  fn := fun f h => let ⟨a, fd, ps, r⟩ := (gd.fn f h).ex; ⟨⟨a, fd, ps, r⟩⟩
  lamOk := fun h => let l := gd.lamOk h; ⟨l.room, l.tab, fun f hf => ⟨(l.told f hf).ex⟩⟩
end
end Ev
namespace Ev
open PySem PySem.Spec PyProof.Rows L2
section
variable {G : GC} {w0 : Wd} {H0 : Hp} {env : EvEnv} {σ : L2.St} {w w1 : Wd} {H H1 : Hp} {st st1 : HSt}
/-- an own thing joins -/
theorem FR.addOwn (f : FR G w0 H0 env σ w H st) {p : Addr} {d : D} (pf : ¬ w.F p) (pl : p ∉ w.L) (p0 : Fre H0 p) (ho : OwnAt G w H d p)
    (hne : ∀ (i : Nat) (d' : D), env[i]? = some (some (true, d')) → σ[i]? ≠ some (some (.ref p))) : FR G w0 H0 (env ++ [some (true, d)]) (σ ++ [some (.ref p)]) w H st := by
  refine ⟨f.ext, f.wr, by rw [List.length_append, List.length_append, f.len]; rfl, fun i s h => ?_, fun i j d1 d2 hij h1 h2 => ?_⟩
  · rcases slot_app h with ⟨hi, h⟩ | ⟨hi, h⟩
    · have q := f.sl i s h
      have hσ : i < σ.length := by rw [← f.len]; exact hi
      obtain ⟨b, d'⟩ := s
      cases b with
      | false => obtain ⟨v, q1, q2⟩ := q; exact ⟨v, by rw [st_app hσ]; exact q1, q2⟩
      | true => obtain ⟨a, q1, q2⟩ := q; exact ⟨a, by rw [st_app hσ]; exact q1, q2⟩
    · cases h
      exact ⟨p, by rw [hi, f.len]; exact st_last, pf, pl, p0, ho⟩
  · have own_ne : ∀ {i d'}, i < env.length → env[i]? = some (some (true, d')) → (σ ++ [some (V.ref p)])[i]? ≠ some (some (.ref p)) := fun {i d'} hi h z => by
      rw [st_app (by rw [← f.len]; exact hi)] at z
      exact hne i d' h z
    rcases slot_app h1 with ⟨hi, h1⟩ | ⟨hi, h1⟩
    · rcases slot_app h2 with ⟨hj, h2⟩ | ⟨hj, h2⟩
      · rw [st_app (by rw [← f.len]; exact hi), st_app (by rw [← f.len]; exact hj)]
        exact f.ap i j d1 d2 hij h1 h2
      · rw [hj, f.len, st_last]
        exact own_ne hi h1
    · rcases slot_app h2 with ⟨hj, h2⟩ | ⟨hj, h2⟩
      · rw [hi, f.len, st_last]
        exact (own_ne hj h2).symm
      · omega
theorem FR.own_ne (f : FR G w0 H0 env σ w H st) {p : Addr} (hp : Fre H p) : ∀ (i : Nat) (d' : D), env[i]? = some (some (true, d')) → σ[i]? ≠ some (some (.ref p)) := fun i d' h z => by
  obtain ⟨a, q1, _, _, _, q5⟩ := f.sl i _ h
  rw [q1] at z
  cases z
  obtain ⟨o, e, n⟩ := q5.nt
  exact hp o e n
/-- the last slot, own -/
theorem FR.last (f : FR G w0 H0 (env ++ [some (true, d)]) (σ ++ [some (.ref p)]) w H st) : ¬ w.F p ∧ p ∉ w.L ∧ Fre H0 p ∧ OwnAt G w H d p := by
  have len : env.length = σ.length := by have := f.len; simpa using this
  obtain ⟨a, q1, q2, q3, q4, q5⟩ := f.sl env.length (true, d) (by simp)
  rw [len, st_last] at q1
  cases q1
  exact ⟨q2, q3, q4, q5⟩
theorem FR.write' (f : FR G w0 H0 (env ++ [some (true, d)]) (σ ++ [some (.ref p)]) w H st) {d' : D} {o : HO} (ho : OwnAt G w (upd H p o) d' p) : FR G w0 H0 (env ++ [some (true, d')]) (σ ++ [some (.ref p)]) w (upd H p o) st := by
  have len : env.length = σ.length := by have := f.len; simpa using this
  have q := f.write (j := env.length) (d := d) (d' := d') (a := p) (o := o) (by simp) (by rw [len, st_last]) ho
  simpa using q
theorem Ext.ofWrite (x : Ext w H w1 H1) {p : Addr} {o : HO} (hp : Fre H p) (ho : NTo o) : Ext w H w1 (upd H1 p o) := ⟨x.F, x.L, fun a u h hn ht => by rw [upd_ne (fun z => by rw [z] at h; exact hp u h ht)]; exact x.same a u h hn ht, x.newF, x.newL, fun a u h n => by
  by_cases e : a = p
  · subst e; exact ⟨o, upd_same, ho⟩
  · rw [upd_ne e]; exact x.there a u h n⟩
end
section
variable {G : GC} {w0 : Wd} {H0 : Hp} {env : EvEnv} {σ : L2.St} {w w1 : Wd} {H H1 : Hp} {st st1 : HSt}
/-- a result that is known -/
theorem T.val {W : WX} {α β : Type} {rel : Wd → Hp → α → β → Prop} {ea : EvEnv → HSt → R α} {a : α} {P : β → Hp → Prop} (fr : FR G w0 H0 env σ w H st) (e : ea env st = .ok a st1) (k : ∀ b w1 H1, FR G w0 H0 env σ w1 H1 st1 → Ext w H w1 H1 → rel w1 H1 a b → P b H1) : TT_ G w0 H0 W rel ea σ H P := by
  refine ⟨env, w, st, fr, ?_⟩
  rw [e]
  exact fun w' H' b x wr r => k b w' H' (fr.step x wr) x r
theorem noExc_ok {α : Type} {r : R α} {s : HSt} {a : α} (h : noExc r = .ok a s) : r = .ok a s := by
  cases r <;> first | exact h | cases h
end
theorem noExc_exc {α : Type} {r : R α} {c : Nat} {s : HSt} (h : noExc r = .exc c s) : False := by
  cases r <;> cases h
def isOk {α : Type} : R α → Prop
  | .ok _ _ => True
  | _ => False
theorem R.bind_eq_ok {α β : Type} {r : R α} {f : α → HSt → R β} {b : β} {s : HSt} (h : r.bind f = .ok b s) : ∃ a s1, r = .ok a s1 ∧ f a s1 = .ok b s := by
  cases r with
  | ok a s1 => exact ⟨a, s1, rfl, h⟩
  | exc c s1 => cases h
  | bad => cases h
section
variable {X : Cx} {g : GN} {ck : CK} {con : Nat → Option D} {C : CT} {N : List Str} {sc : Scope} {W : WX} {k : Nat} {w0 : Wd} {H0 : Hp}
variable {e tg it : Expr}
theorem wipe_setN {v : Nat} : ∀ (vs : List Nat) (τ : L2.St), wipe (τ.set v none) vs = (wipe τ vs).set v none
  | [], _ => rfl
  | u :: us, τ => by
    unfold wipe
    rw [wipe_setN us τ]
    by_cases e : u = v
    · subst e; rfl
    · rw [List.set_comm _ _ (Ne.symm e)]
theorem wipe_wipe {σ : L2.St} : ∀ {vs : List Nat}, wipe (wipe σ vs) vs = wipe σ vs
  | [] => rfl
  | v :: vs => by
    show (wipe ((wipe σ vs).set v none) vs).set v none = (wipe σ vs).set v none
    rw [wipe_setN, wipe_wipe (vs := vs), List.set_set]
/-- the turns of a list comprehension -/
theorem lc_turns {G : GC} {J : It} {wk : Bool} {ds : List D} {xsF : List D} {own : List Nat} {t : Tgt} {bb : EvEnv → D → Option EvEnv} {ec ee : EvEnv → HSt → R D} {tt : TT} {env : EvEnv} {σ : L2.St} {w1 : Wd} {H1 : Hp} {st1 stF : HSt} {p : Addr} {Q : VK}
    (hbb : ∀ e d, bb e d = bindT e t d) (fr : FR G w0 H0 env σ w1 H1 st1) (hJ : GoodIt G wk w1 H1 ds J) (hp : H1 p = none) (hwk : wk = true → isTp t = true) (hown : tgtIn own t = true) (hsz : ds.length ≤ line)
    (hev : evLC bb ec ee (wipeE env own) ds st1 = .ok xsF stF)
    (htt : ∀ σ H P env' w st b st', FR G w0 H0 env' σ w H st → ec env' st = .ok (.bl b) st' → (∀ w' H', FR G w0 H0 env' σ w' H' st' → Ext w H w' H' → P b H') → tt σ H P)
    (hQ : ∀ w' H', Ext w1 H1 w' H' → FR G w0 H0 (env ++ [some (true, .lst xsF)]) (σ ++ [some (.ref p)]) w' H' stF → Q (.ref p) H') :
    ∃ W : Nat → Nat → Hp → Prop, (∃ m, W 0 m (upd H1 p (.lst []))) ∧ ∀ i m H, W i m H →
  (J.stop i H ∧ Q (.ref p) H) ∨ (J.go i H ∧ ∃ Nx : Hp → Prop, (∀ H', Nx H' → ∃ m', m' < m ∧ W (i + 1) m' H') ∧ ∀ x H', J.yld i H x H' → gT G.K t x (wipe σ own) H' fun σ2 H2 => wipe σ2 own = wipe σ own ∧ tt σ2 H2 fun b H3 =>
    if b = true then (TEv G w0 H0 (fun _ _ _ _ => False) ee) σ2 H3 fun y H4 => ∃ acc, H4 p = some (.lst acc) ∧ acc.length < sizeLine ∧ Nx (upd H4 p (.lst (acc ++ [y]))) else Nx H3) := by
  have hne := fr.own_ne (.of hp)
  have line_eq : line = sizeLine := by rw [sizeLine_eq]; rfl
  refine ⟨fun i m H => m = ds.length - i ∧ i ≤ ds.length ∧ ∃ w st acc xs, FR G w0 H0 (wipeE env own ++ [some (true, .lst acc)]) (wipe σ own ++ [some (.ref p)]) w H st ∧ Ext w1 H1 w H ∧ acc.length ≤ i ∧ evLC bb ec ee (wipeE env own) (ds.drop i) st = .ok xs stF ∧ acc ++ xs = xsF, ?_, ?_⟩
  · refine ⟨ds.length, rfl, Nat.zero_le _, w1, st1, [], xsF, ?_, Ext.refl.ofWrite (.of hp) (fun ps => by simp), Nat.le_refl _, hev, rfl⟩
    exact (fr.wipe own).alloc hp ⟨[], upd_same, .nil⟩
  · rintro i m H ⟨rfl, hi, w, st, acc, xs, f, x, hacc, he, ha⟩
    obtain ⟨l1, l2, l3, l4⟩ := f.last
    by_cases hlt : i < ds.length
    · refine .inr ?_
      obtain ⟨go, yl⟩ := (hJ w H st x f.wr i).1 ds[i] (by simp [hlt])
      refine ⟨go, fun H' => i + 1 ≤ ds.length ∧ ∃ w st acc xs, FR G w0 H0 (wipeE env own ++ [some (true, .lst acc)]) (wipe σ own ++ [some (.ref p)]) w H' st ∧ Ext w1 H1 w H' ∧ acc.length ≤ i + 1 ∧ evLC bb ec ee (wipeE env own) (ds.drop (i + 1)) st = .ok xs stF ∧ acc ++ xs = xsF, fun H' h => ⟨ds.length - (i + 1), by omega, rfl, h⟩, fun v H' hy => ?_⟩
      obtain ⟨w', px, rv⟩ := yl v H' hy
      have hd : ds.drop i = ds[i] :: ds.drop (i + 1) := List.drop_eq_getElem_cons hlt
      rw [hd] at he
      simp only [evLC] at he
      rw [hbb] at he
      cases hb : bindT (wipeE env own) t ds[i] with
      | none => rw [hb] at he; cases he
      | some env' =>
        rw [hb] at he
        simp only at he
        obtain ⟨tb, s2, e1, he⟩ := R.bind_eq_ok he
        have f' := f.step px.ext (px.wrel f.wr)
        refine bind_ok t hb f'.init rv hwk fun σ2 fσ hw => ⟨by rw [hw own hown]; exact wipe_wipe, ?_⟩
        cases tb with
        | bl b =>
          refine htt σ2 H' _ env' w' st b s2 fσ e1 fun w3 H3 f3 x3 => ?_
          have g3 := f'.step x3 f3.wr
          cases b with
          | true =>
            rw [if_pos rfl]
            obtain ⟨y, s3, e2, he⟩ := R.bind_eq_ok he
            obtain ⟨ys, s4, e3, he⟩ := R.bind_eq_ok he
            cases he
            refine T.val f3 e2 fun v4 w4 H4 f4 x4 r4 => ?_
            have g4 := g3.step x4 f4.wr
            obtain ⟨m1, m2, m3, vs, m4, m5⟩ := g4.last
            have lv : vs.length = acc.length := m5.length.symm
            refine ⟨vs, m4, by rw [lv, ← line_eq]; omega, by omega, w4, s3, acc ++ [y], ys, ?_, (((x.trans px.ext).trans x3).trans x4).ofWrite (.of hp) (fun ps => by simp), by rw [List.length_append]; simp; omega, e3, by rw [List.append_assoc]; exact ha⟩
            have le : Le w4 H4 w4 (upd H4 p (.lst (vs ++ [v4]))) := ⟨fun _ h => h, fun a h => by rw [upd_ne (fun z => m1 (by rw [← z]; exact h))], fun _ _ h => h⟩
            exact g4.write' ⟨_, upd_same, (m5.append (.cons r4 .nil)).mono le⟩
          | false =>
            rw [if_neg Bool.false_ne_true]
            exact ⟨by omega, w3, s2, acc, xs, g3, (x.trans px.ext).trans x3, by omega, he, ha⟩
        | _ => cases he
    · have hie : i = ds.length := by omega
      refine .inl ⟨(hJ w H st x f.wr i).2 (by omega), hQ w H x ?_⟩
      rw [hie, List.drop_length] at he
      cases he
      rw [List.append_nil] at ha
      subst ha
      exact (fr.step x f.wr).addOwn l1 l2 l3 l4 hne

theorem ownN_map (N : List Str) (own : List Nat) : (ownN N own).map (·.2) = own := by
  unfold ownN
  rw [List.map_map]
  exact (List.map_congr_left fun _ _ => rfl).trans (List.map_id' own)
theorem Good.blkok (gd : Good X g ck con C N sc W k) {scope : Scope} {own : List Nat} (hb : blkC N sc scope (ownN N own) = true) : BlkOk X.N X.env.scope scope (ownN N own) := by
  rw [gd.hN, gd.hs]
  exact blkOk_by hb
theorem folded_ok (h : notSet it = true) (env : Env) : ∀ x, foldedSetIterable it env x = pure x := by
  intro x
  cases it <;> first | rfl | cases h
theorem Good.blkG (gd : Good X g ck con C N sc W k) {scope : Scope} {t : Tgt} (hg : chkG N (relR scope sc) (fun x => isCell (lookN scope.names x)) t tg = true) (s : Shared) (H : Hp) (C' : Addr) (cl : List (Str × Addr)) (fp : List Addr) :
    PG (X.blk s H scope (compEnvC scope cl C' X.env) fp) tg (gT X.K t) := by
  have gd' := gd.blk s H scope C' cl fp
  refine g_ok (X := X.blk s H scope (compEnvC scope cl C' X.env) fp) gd'.hN gd'.nd gd'.hs gd'.calm (fun x h => ?_) t tg hg
  show (scope.names.lookup x == some .cell) = true
  have h : isCell (lookN scope.names x) = true := h
  rw [lookN_eq] at h
  cases q : scope.names.lookup x with
  | none => rw [q] at h; cases h
  | some z => rw [q] at h; cases z <;> first | rfl | cases h
/-- a comprehension's own part, the source known -/
theorem lc_start {own : List Nat} {t : Tgt} {tt : TT} {wk : Bool} {ei : EvEnv → HSt → R (List D)} {bb : EvEnv → D → Option EvEnv} {ec ee : EvEnv → HSt → R D} {σ : L2.St} {H : Hp} {Q : VK} (hbb : ∀ e d, bb e d = bindT e t d) (hwk : wk = true → isTp t = true) (hown : tgtIn own t = true)
    (htt : ∀ σ H P env' w st b st', FR (Gx X g) w0 H0 env' σ w H st → ec env' st = .ok (.bl b) st' → (∀ w' H', FR (Gx X g) w0 H0 env' σ w' H' st' → Ext w H w' H' → P b H') → tt σ H P)
    (h : TOv (Gx X g) w0 H0 W (fun env st => (ei env st).bind fun ds st => guardP (Nat.ble ds.length line) ((noExc (evLC bb ec ee (wipeE env own) ds st)).bind fun ds st => .ok (.lst ds) st)) σ H Q) :
    tLc (TIv (Gx X g) w0 H0 W wk ei) (gT X.K t) tt (TEv (Gx X g) w0 H0 (fun _ _ _ _ => False) ee) own σ H Q := by
  obtain ⟨env, w, st, fr, y⟩ := h
  refine ⟨env, w, st, fr, ?_⟩
  dsimp only at y ⊢
  cases q : ei env st with
  | exc c s => rw [q] at y; exact y
  | bad => rw [q] at y; exact y
  | ok ds s =>
    rw [q] at y
    simp only [R.bind_ok] at y
    unfold guardP at y
    split at y
    · rename_i hl
      intro w' H' J x wr hJ p hp
      cases q2 : noExc (evLC bb ec ee (wipeE env own) ds s) with
      | exc c s => exact (noExc_exc q2).elim
      | bad => rw [q2] at y; exact y.elim
      | ok xs sF =>
        rw [q2] at y
        have hpH : Fre H p := x.fre (.of hp)
        exact lc_turns hbb (fr.step x wr) hJ hp hwk hown (Nat.le_of_ble_eq_true hl) (noExc_ok q2) htt fun w2 H2 x2 f2 => y w2 H2 p (x.trans x2) hpH f2
    · exact y.elim
theorem r_lc {own : List Nat} {t : Tgt} {wk : Bool} {ei : EvEnv → HSt → R (List D)} {ee : EvEnv → HSt → R D} {scope : Scope} {pos : Pos} (gd : Good X g ck con C N sc W k) (hb : blkC N sc scope (ownN N own) = true)
    (hg : chkG N (relR scope sc) (fun x => isCell (lookN scope.names x)) t tg = true) (hown : tgtIn own t = true) (hwk : wk = true → isTp t = true) (hset : notSet it = true) (hi : PI X tg it (TIv (Gx X g) w0 H0 W wk ei))
    (he : ∀ (s : Shared) (H : Hp) (C' : Addr) (cl : List (Str × Addr)) (fp : List Addr), PE (X.blk s H scope (compEnvC scope cl C' X.env) fp) e (TEv (Gx X g) w0 H0 (fun _ _ _ _ => False) ee)) :
    PE X (.ListComp e [⟨tg, it, [], 0⟩] scope pos) (TOv (Gx X g) w0 H0 W fun env st => (ei env st).bind fun ds st => guardP (Nat.ble ds.length line) ((noExc (evLC (fun e d => bindT e t d) (fun _ st => .ok (.bl true) st) ee (wipeE env own) ds st)).bind fun ds st => .ok (.lst ds) st)) := by
  have key := pe_lc (pos := pos) gd.calm (by rw [gd.hN]; exact gd.nd) hi (gd.blkok hb) (fun s H C' cl fp => gd.blkG hg s H C' cl fp) (fun s H C' cl fp => pts_nil) he (folded_ok hset X.env)
  rw [ownN_map] at key
  refine PE.imp key fun σ H Q h => lc_start (tt := tYes) (fun _ _ => rfl) hwk hown (fun σ H P env' w st b st' fr e k => ?_) h
  cases e
  exact k w H fr .refl
theorem r_lcf {own : List Nat} {t : Tgt} {wk : Bool} {ei : EvEnv → HSt → R (List D)} {ec ee : EvEnv → HSt → R D} {scope : Scope} {pos : Pos} {c : Expr} (gd : Good X g ck con C N sc W k) (hb : blkC N sc scope (ownN N own) = true)
    (hg : chkG N (relR scope sc) (fun x => isCell (lookN scope.names x)) t tg = true) (hown : tgtIn own t = true) (hwk : wk = true → isTp t = true) (hset : notSet it = true) (hi : PI X tg it (TIv (Gx X g) w0 H0 W wk ei))
    (he : ∀ (s : Shared) (H : Hp) (C' : Addr) (cl : List (Str × Addr)) (fp : List Addr), PE (X.blk s H scope (compEnvC scope cl C' X.env) fp) e (TEv (Gx X g) w0 H0 (fun _ _ _ _ => False) ee))
    (hc : ∀ (s : Shared) (H : Hp) (C' : Addr) (cl : List (Str × Addr)) (fp : List Addr), PT (X.blk s H scope (compEnvC scope cl C' X.env) fp) c (TBv (Gx X g) w0 H0 (fun _ _ _ _ => False) ec)) :
    PE X (.ListComp e [⟨tg, it, [c], 0⟩] scope pos) (TOv (Gx X g) w0 H0 W fun env st => (ei env st).bind fun ds st => guardP (Nat.ble ds.length line) ((noExc (evLC (fun e d => bindT e t d) ec ee (wipeE env own) ds st)).bind fun ds st => .ok (.lst ds) st)) := by
  have key := pe_lc (pos := pos) gd.calm (by rw [gd.hN]; exact gd.nd) hi (gd.blkok hb) (fun s H C' cl fp => gd.blkG hg s H C' cl fp) (fun s H C' cl fp => pts_one (hc s H C' cl fp)) he (folded_ok hset X.env)
  rw [ownN_map] at key
  refine PE.imp key fun σ H Q h => lc_start (fun _ _ => rfl) hwk hown (fun σ H P env' w st b st' fr e k => ?_) h
  refine T.val (a := b) (st1 := st') fr (by rw [e]; rfl) fun b' w1 H1 f1 x1 r => ?_
  have r : b = b' := r
  subst r
  exact k w1 H1 f1 x1
/-! dicts -/
theorem dc_turns {G : GC} {J : It} {wk : Bool} {ds : List D} {dF : D} {own : List Nat} {t : Tgt} {ek ee : EvEnv → HSt → R D} {env : EvEnv} {σ : L2.St} {w1 : Wd} {H1 : Hp} {st1 stF : HSt} {p : Addr} {Q : VK}
    (fr : FR G w0 H0 env σ w1 H1 st1) (hJ : GoodIt G wk w1 H1 ds J) (hp : H1 p = none) (hwk : wk = true → isTp t = true) (hown : tgtIn own t = true) (hsz : ds.length ≤ line)
    (hev : evDC (fun e d => bindT e t d) ek ee (wipeE env own) ds ([], []) st1 = .ok dF stF)
    (hQ : ∀ w' H', Ext w1 H1 w' H' → FR G w0 H0 (env ++ [some (true, dF)]) (σ ++ [some (.ref p)]) w' H' stF → Q (.ref p) H') :
    ∃ W : Nat → Nat → Hp → Prop, (∃ m, W 0 m (upd H1 p (.dK []))) ∧ ∀ i m H, W i m H →
  (J.stop i H ∧ Q (.ref p) H) ∨ (J.go i H ∧ ∃ Nx : Hp → Prop, (∀ H', Nx H' → ∃ m', m' < m ∧ W (i + 1) m' H') ∧ ∀ x H', J.yld i H x H' → gT G.K t x (wipe σ own) H' fun σ2 H2 => wipe σ2 own = wipe σ own ∧ tYes σ2 H2 fun b H3 =>
    if b = true then (TEv G w0 H0 (fun _ _ _ _ => False) ek) σ2 H3 fun y H4 => (TEv G w0 H0 (fun _ _ _ _ => False) ee) σ2 H4 fun z H5 => ∃ kvs k, y = kV k ∧ H5 p = some (.dK kvs) ∧ kvs.length < sizeLine ∧ Nx (upd H5 p (.dK (putK kvs k z))) else Nx H3) := by
  have hne := fr.own_ne (.of hp)
  have line_eq : line = sizeLine := by rw [sizeLine_eq]; rfl
  refine ⟨fun i m H => m = ds.length - i ∧ i ≤ ds.length ∧ ∃ w st ks vs, FR G w0 H0 (wipeE env own ++ [some (true, .dk ks vs)]) (wipe σ own ++ [some (.ref p)]) w H st ∧ Ext w1 H1 w H ∧ ks.length ≤ i ∧ evDC (fun e d => bindT e t d) ek ee (wipeE env own) (ds.drop i) (ks, vs) st = .ok dF stF, ?_, ?_⟩
  · refine ⟨ds.length, rfl, Nat.zero_le _, w1, st1, [], [], ?_, Ext.refl.ofWrite (.of hp) (fun ps => by simp), Nat.le_refl _, hev⟩
    exact (fr.wipe own).alloc hp ⟨[], upd_same, rfl, .nil⟩
  · rintro i m H ⟨rfl, hi, w, st, ks, vs, f, x, hks, he⟩
    obtain ⟨l1, l2, l3, l4⟩ := f.last
    by_cases hlt : i < ds.length
    · refine .inr ?_
      obtain ⟨go, yl⟩ := (hJ w H st x f.wr i).1 ds[i] (by simp [hlt])
      refine ⟨go, fun H' => i + 1 ≤ ds.length ∧ ∃ w st ks vs, FR G w0 H0 (wipeE env own ++ [some (true, .dk ks vs)]) (wipe σ own ++ [some (.ref p)]) w H' st ∧ Ext w1 H1 w H' ∧ ks.length ≤ i + 1 ∧ evDC (fun e d => bindT e t d) ek ee (wipeE env own) (ds.drop (i + 1)) (ks, vs) st = .ok dF stF, fun H' h => ⟨ds.length - (i + 1), by omega, rfl, h⟩, fun v H' hy => ?_⟩
      obtain ⟨w', px, rv⟩ := yl v H' hy
      have hd : ds.drop i = ds[i] :: ds.drop (i + 1) := List.drop_eq_getElem_cons hlt
      rw [hd] at he
      simp only [evDC] at he
      cases hb : bindT (wipeE env own) t ds[i] with
      | none => rw [hb] at he; cases he
      | some env' =>
        rw [hb] at he
        simp only at he
        obtain ⟨tk, s2, e1, he⟩ := R.bind_eq_ok he
        obtain ⟨tv, s3, e2, he⟩ := R.bind_eq_ok he
        have f' := f.step px.ext (px.wrel f.wr)
        refine bind_ok t hb f'.init rv hwk fun σ2 fσ hw => ⟨by rw [hw own hown]; exact wipe_wipe, ?_⟩
        unfold tYes
        dsimp only
        rw [if_pos rfl]
        refine T.val fσ e1 fun kv w3 H3 f3 x3 r3 => ?_
        refine T.val f3 e2 fun zv w4 H4 f4 x4 r4 => ?_
        have r3 := r3.mono (x4.le f3.wr)
        have g4 := (f'.step x3 f3.wr).step x4 f4.wr
        obtain ⟨m1, m2, m3, ws, m4, m5, m6⟩ := g4.last
        cases hk : keyD tk with
        | none => rw [hk] at he; cases he
        | some kk =>
          rw [hk] at he
          simp only at he
          have hkv : kv = kV (kyK kk) := by
            cases tk <;> first | cases hk | skip
            · cases rep_int r3; rfl
            · cases r3; rfl
          obtain ⟨ws', q1, q2, q3⟩ := putD_putK (k := kk) m5 m6 r4
          have hlen : (putD ks vs kk tv).1.length ≤ ks.length + 1 := by
            unfold putD
            split
            · exact Nat.le_succ _
            · simp
          refine ⟨_, kyK kk, hkv, m4, ?_, by omega, w4, s3, _, _, ?_, (((x.trans px.ext).trans x3).trans x4).ofWrite (.of hp) (fun ps => by simp), Nat.le_trans hlen (Nat.succ_le_succ hks), he⟩
          · rw [List.length_zip, List.length_map, ← m5, Nat.min_self, ← line_eq]; omega
          · rw [q1]
            refine g4.write' ⟨ws', upd_same, q2, q3.mono ⟨fun _ h => h, fun a h => by rw [upd_ne (fun z => m1 (by rw [← z]; exact h))], fun _ _ h => h⟩⟩
    · have hie : i = ds.length := by omega
      refine .inl ⟨(hJ w H st x f.wr i).2 (by omega), hQ w H x ?_⟩
      rw [hie, List.drop_length] at he
      cases he
      exact (fr.step x f.wr).addOwn l1 l2 l3 l4 hne
theorem r_dc {own : List Nat} {t : Tgt} {wk : Bool} {ei : EvEnv → HSt → R (List D)} {ek ee : EvEnv → HSt → R D} {scope : Scope} {pos : Pos} {c : Expr} (gd : Good X g ck con C N sc W k) (hb : blkC N sc scope (ownN N own) = true)
    (hg : chkG N (relR scope sc) (fun x => isCell (lookN scope.names x)) t tg = true) (hown : tgtIn own t = true) (hwk : wk = true → isTp t = true) (hset : notSet it = true) (hi : PI X tg it (TIv (Gx X g) w0 H0 W wk ei))
    (hk : ∀ (s : Shared) (H : Hp) (C' : Addr) (cl : List (Str × Addr)) (fp : List Addr), PE (X.blk s H scope (compEnvC scope cl C' X.env) fp) c (TEv (Gx X g) w0 H0 (fun _ _ _ _ => False) ek))
    (he : ∀ (s : Shared) (H : Hp) (C' : Addr) (cl : List (Str × Addr)) (fp : List Addr), PE (X.blk s H scope (compEnvC scope cl C' X.env) fp) e (TEv (Gx X g) w0 H0 (fun _ _ _ _ => False) ee)) :
    PE X (.DictComp c e [⟨tg, it, [], 0⟩] scope pos) (TOv (Gx X g) w0 H0 W fun env st => (ei env st).bind fun ds st => guardP (Nat.ble ds.length line) (noExc (evDC (fun e d => bindT e t d) ek ee (wipeE env own) ds ([], []) st))) := by
  have key := pe_dc (pos := pos) gd.calm (by rw [gd.hN]; exact gd.nd) hi (gd.blkok hb) (fun s H C' cl fp => gd.blkG hg s H C' cl fp) (fun s H C' cl fp => pts_nil) hk he (folded_ok hset X.env)
  rw [ownN_map] at key
  refine PE.imp key fun σ H Q ⟨env, w, st, fr, y⟩ => ⟨env, w, st, fr, ?_⟩
  dsimp only at y ⊢
  cases q : ei env st with
  | exc c s => rw [q] at y; exact y
  | bad => rw [q] at y; exact y
  | ok ds s =>
    rw [q] at y
    simp only [R.bind_ok] at y
    unfold guardP at y
    split at y
    · rename_i hl
      intro w' H' J x wr hJ p hp
      cases q2 : noExc (evDC (fun e d => bindT e t d) ek ee (wipeE env own) ds ([], []) s) with
      | exc c s => exact (noExc_exc q2).elim
      | bad => rw [q2] at y; exact y.elim
      | ok d sF =>
        rw [q2] at y
        have hpH : Fre H p := x.fre (.of hp)
        exact dc_turns (fr.step x wr) hJ hp hwk hown (Nat.le_of_ble_eq_true hl) (noExc_ok q2) fun w2 H2 x2 f2 => y w2 H2 p (x.trans x2) hpH f2
    · exact y.elim
end
end Ev
namespace Ev
open PySem PySem.Spec PyProof.Rows L2
/-! ### own things, read -/
section
variable {G : GC} {w0 : Wd} {H0 : Hp} {env : EvEnv} {σ : L2.St} {w w1 : Wd} {H H1 : Hp} {st st1 : HSt}
theorem frzE_get : ∀ {env : EvEnv} {i : Nat}, (frzE env)[i]? = (env[i]?).map fun s => s.map fun p => (false, p.2)
  | [], i => by simp [frzE]
  | some (b, d) :: r, 0 => by simp [frzE]
  | none :: r, 0 => by simp [frzE]
  | some (b, d) :: r, i + 1 => by simp only [frzE, List.getElem?_cons_succ]; exact frzE_get
  | none :: r, i + 1 => by simp only [frzE, List.getElem?_cons_succ]; exact frzE_get
theorem frzE_len : ∀ {env : EvEnv}, (frzE env).length = env.length
  | [] => rfl
  | some (b, d) :: r => by simp [frzE, frzE_len (env := r)]
  | none :: r => by simp [frzE, frzE_len (env := r)]
theorem FR.frzAll (f : FR G w0 H0 env σ w H st) : ∃ F', FR G w0 H0 (frzE env) σ ⟨F', w.L⟩ H st ∧ Le w H ⟨F', w.L⟩ H := by
  refine ⟨fun a => w.F a ∨ ∃ (i : Nat) (d : D), env[i]? = some (some (true, d)) ∧ σ[i]? = some (some (V.ref a)), ?_⟩
  generalize hF : (fun a => w.F a ∨ ∃ (i : Nat) (d : D), env[i]? = some (some (true, d)) ∧ σ[i]? = some (some (V.ref a))) = F'
  have hF' : ∀ a, F' a ↔ (w.F a ∨ ∃ (i : Nat) (d : D), env[i]? = some (some (true, d)) ∧ σ[i]? = some (some (V.ref a))) := fun a => by rw [← hF]
  have own : ∀ {i : Nat} {d : D} {a : Addr}, env[i]? = some (some (true, d)) → σ[i]? = some (some (.ref a)) → ¬ w.F a ∧ a ∉ w.L ∧ Fre H0 a ∧ OwnAt G w H d a := fun {i d a} h1 h2 => by
    obtain ⟨a', q1, q2⟩ := f.sl i _ h1
    rw [h2] at q1; cases q1; exact q2
  have le : Le w H ⟨F', w.L⟩ H := ⟨fun a h => (hF' a).mpr (.inl h), fun _ _ => rfl, fun _ _ h => h⟩
  refine ⟨⟨⟨fun a h => (hF' a).mpr (.inl (f.ext.F a h)), f.ext.L, f.ext.same, fun a h => ?_, f.ext.newL, f.ext.there⟩, ⟨fun a h => ?_, fun a h z => ?_, f.wr.nd, f.wr.len, fun n hd h => ?_, fun a o h e => ?_, f.wr.tb⟩, by rw [frzE_len]; exact f.len, fun i s h => ?_, fun i j d e hij h1 h2 => ?_⟩, le⟩
  · rcases (hF' a).mp h with h | ⟨i, d, h1, h2⟩
    · exact f.ext.newF a h
    · exact .inr (own h1 h2).2.2.1
  · rcases (hF' a).mp h with h | ⟨i, d, h1, h2⟩
    · exact f.wr.fz a h
    · exact (own h1 h2).2.2.2.trk
  · rcases (hF' a).mp z with z | ⟨i, d, h1, h2⟩
    · exact f.wr.sep a h z
    · exact (own h1 h2).2.1 h
  · obtain ⟨a, e, q⟩ := f.wr.at_ n hd h
    exact ⟨a, e, q.mono le rfl⟩
  · rcases (hF' a).mp h with h | ⟨i, d, h1, h2⟩
    · exact f.wr.nt a o h e
    · obtain ⟨o', e', n⟩ := (own h1 h2).2.2.2.nt
      rw [e] at e'; cases e'; exact n
  · rw [frzE_get] at h
    cases q : env[i]? with
    | none => rw [q] at h; cases h
    | some z =>
      rw [q] at h
      cases z with
      | none => cases h
      | some p =>
        cases h
        obtain ⟨b, d⟩ := p
        have sl := f.sl i _ q
        cases b with
        | false => obtain ⟨v, z1, z2⟩ := sl; exact ⟨v, z1, z2.mono le⟩
        | true =>
          obtain ⟨a, z1, z2, z3, z4, z5⟩ := sl
          refine ⟨.ref a, z1, ?_⟩
          have fa : F' a := (hF' a).mpr (.inr ⟨i, d, q, z1⟩)
          cases d with
          | lst ds => obtain ⟨vs, y1, y2⟩ := z5; exact .lst fa y1 (y2.mono le)
          | dk ks vs => obtain ⟨ws, y1, y2, y3⟩ := z5; exact .dk fa y1 y2 (y3.mono le)
          | _ => exact z5.elim
  · rw [frzE_get] at h1
    cases q : env[i]? with
    | none => rw [q] at h1; cases h1
    | some z =>
      rw [q] at h1
      cases z <;> cases h1
theorem Rep.flat {G : GC} {w w2 : Wd} {H H2 : Hp} {d : D} {v : V} (h : flatD d = true) (r : Rep G w H d v) : Rep G w2 H2 d v := by
  cases r <;> first | exact .non | exact .bl _ | exact .int _ | exact .str _ | cases h
end
/-! pure ones -/
section
variable (G : GC) (w0 : Wd) (H0 : Hp)
def TUv {α β : Type} (rel : Wd → Hp → α → β → Prop) (ev : EvEnv → HSt → R α) : L2.St → Hp → (β → Hp → Prop) → Prop := fun σ H Q =>
  ∃ env w st a st', FR G w0 H0 env σ w H st ∧ ev env st = .ok a st' ∧ ∀ w' H' b, PExt w H w' H' → rel w' H' a b → Q b H'
end
section
variable {con : Nat → Option D} {C : CT} {TD : Nat → Nat → Option D}
theorem liftO_st {α : Type} {o : Option α} {st st' : HSt} {a : α} (h : liftO o st = .ok a st') : st' = st ∧ o = some a := by
  cases o <;> cases h
  exact ⟨rfl, rfl⟩
mutual
theorem pure_st : ∀ (i : IE) {env : EvEnv} {st st' : HSt} {d : D}, pureE i = true → evE con C TD env i st = .ok d st' → st' = st
  | .var i, env, st, st', d, _, h => by
    unfold evE at h
    split at h <;> cases h
    rfl
  | .non, _, _, _, _, _, h => by cases h; rfl
  | .bl _, _, _, _, _, _, h => by cases h; rfl
  | .int _, _, _, _, _, _, h => by cases h; rfl
  | .str _, _, _, _, _, _, h => by cases h; rfl
  | .glob k, _, _, _, _, _, h => (liftO_st h).1
  | .tup es, _, _, _, _, p, h => by
    unfold evE at h
    obtain ⟨a, s1, h1, h2⟩ := R.bind_eq_ok h
    cases h2
    exact pures_st es p h1
  | .lst es, _, _, _, _, p, h => by
    unfold evE at h
    obtain ⟨a, s1, h1, h2⟩ := R.bind_eq_ok h
    cases h2
    exact pures_st es p h1
  | .op o a b, _, _, _, _, p, h => by
    simp only [pureE, Bool.and_eq_true] at p
    unfold evE at h
    obtain ⟨x, s1, h1, h⟩ := R.bind_eq_ok h
    obtain ⟨y, s2, h2, h⟩ := R.bind_eq_ok h
    rw [(liftO_st h).1, pure_st b p.2 h2, pure_st a p.1 h1]
  | .bi _ es, _, _, _, _, p, h => by
    unfold evE at h
    obtain ⟨a, s1, h1, h2⟩ := R.bind_eq_ok h
    rw [(liftO_st h2).1]
    exact pures_st es p h1
  | .isi _ e, _, _, _, _, p, h => by
    unfold evE at h
    obtain ⟨a, s1, h1, h2⟩ := R.bind_eq_ok h
    rw [(liftO_st h2).1]
    exact pure_st e p h1
  | .x1 _ _, _, _, _, _, p, _ => by cases p
  | .x2 _ _ _, _, _, _, _, p, _ => by cases p
  | .dct1 _, _, _, _, _, p, _ => by cases p
  | .lstH _, _, _, _, _, p, _ => by cases p
  | .dct _ _, _, _, _, _, p, _ => by cases p
  | .chn _ _ _ _ _, _, _, _, _, p, _ => by cases p
  | .and2 _ _, _, _, _, _, p, _ => by cases p
  | .or2 _ _, _, _, _, _, p, _ => by cases p
  | .not_ _, _, _, _, _, p, _ => by cases p
  | .ife _ _ _, _, _, _, _, p, _ => by cases p
  | .call _ _, _, _, _, _, p, _ => by cases p
  | .slc _ _ _, _, _, _, _, p, _ => by cases p
  | .rev _, _, _, _, _, p, _ => by cases p
  | .lc _ _ _ _, _, _, _, _, p, _ => by cases p
  | .lcf _ _ _ _ _, _, _, _, _, p, _ => by cases p
  | .dc _ _ _ _ _, _, _, _, _, p, _ => by cases p
  | .skey _, _, _, _, _, p, _ => by cases p
  | .told _ _, _, _, _, _, p, _ => by cases p
  | .bor _, _, _, _, _, p, _ => by cases p
  | .idxO _ _, _, _, _, _, p, _ => by cases p
theorem pures_st : ∀ (es : IEs) {env : EvEnv} {st st' : HSt} {ds : List D}, pureEs es = true → evEs con C TD env es st = .ok ds st' → st' = st
  | .nil, _, _, _, _, _, h => by cases h; rfl
  | .cons e es, _, _, _, _, p, h => by
    simp only [pureEs, Bool.and_eq_true] at p
    unfold evEs at h
    obtain ⟨x, s1, h1, h⟩ := R.bind_eq_ok h
    obtain ⟨y, s2, h2, h⟩ := R.bind_eq_ok h
    cases h
    rw [pures_st es p.2 h2, pure_st e p.1 h1]
end
end
section
variable {X : Cx} {g : GN} {ck : CK} {con : Nat → Option D} {C : CT} {TD : Nat → Nat → Option D} {N : List Str} {sc : Scope} {W : WX} {k : Nat} {w0 : Wd} {H0 : Hp}
variable {α β : Type} {rel : Wd → Hp → α → β → Prop} {env : EvEnv} {σ : L2.St} {w : Wd} {H : Hp} {st st' : HSt}
theorem U.seq {ea : EvEnv → HSt → R α} {a : α} {st1 : HSt} {P : β → Hp → Prop} (fr : FR G w0 H0 env σ w H st) (e : ea env st = .ok a st1) (es : st1 = st)
    (k : ∀ b w1 H1, FR G w0 H0 env σ w1 H1 st → PExt w H w1 H1 → rel w1 H1 a b → P b H1) : TUv G w0 H0 rel ea σ H P :=
  ⟨env, w, st, a, st1, fr, e, fun w' H' b x r => k b w' H' (fr.step x.ext (x.wrel fr.wr)) x r⟩
theorem U.fin {d : D} {Q : VK} {w1 : Wd} {H1 : Hp} (q : ∀ w' H' v, PExt w H w' H' → Rep G w' H' d v → Q v H') (x : PExt w H w1 H1) : PY G w1 H1 d Q := fun w' H' v p r => q w' H' v (x.trans p) r
theorem U.two {f : HSt → D → D → Option D} {ea eb : EvEnv → HSt → R D} {Q : VK} (na : ∀ env st d st', ea env st = .ok d st' → st' = st) (nb : ∀ env st d st', eb env st = .ok d st' → st' = st)
    (h : (TUv (Gx X g) w0 H0 (Rep (Gx X g)) <| fun env st => (ea env st).bind fun x st => (eb env st).bind fun y st => liftO (f st x y) st) σ H Q) : (TUv (Gx X g) w0 H0 (Rep (Gx X g)) <| ea) σ H fun x H1 => (TUv (Gx X g) w0 H0 (Rep (Gx X g)) <| eb) σ H1 fun y H2 => rP2 (Gx X g) f x y H2 Q := by
  obtain ⟨env, w, st, d, st', fr, e, q⟩ := h
  obtain ⟨a, s1, e1, z1⟩ := R.bind_eq_ok e
  obtain ⟨b, s2, e2, z2⟩ := R.bind_eq_ok z1
  have h1 := na _ _ _ _ e1; subst h1
  have h2 := nb _ _ _ _ e2; subst h2
  have e := (liftO_st z2).2
  refine U.seq fr e1 rfl fun v w1 H1 f1 x1 r1 => U.seq f1 e2 rfl fun v2 w2 H2 f2 x2 r2 => ⟨w2, _, a, b, d, f2.wr, r1.mono (x2.ext.le f1.wr), r2, e, U.fin q (x1.trans x2)⟩
theorem r_glob (gd : Good X g ck con C N sc W k) {x : Str} {pos : Pos} {j : Nat} {d : D} {t : TE} (h : globB sc x (ck.cn j) = true) (hd : con j = some d) (hk : ∀ σ H Q v, t σ H Q → (∀ w H, Rep (Gx X g) w H d v) → Q v H) : PE X (.Name x pos) t := by
  obtain ⟨rfl, h2, h3⟩ := globB_ok h
  obtain ⟨v, u, m, r, rp⟩ := gd.mg.con j d hd
  exact PE.imp (pe_glob (gd.gl h2) m r (plain_ok h3).1) fun σ H Q q => hk σ H Q v q rp
theorem PE.never {e : Expr} {t : TE} (h : ∀ σ H Q, ¬ t σ H Q) : PE X e t := ⟨fun _ _ σ H Q _ q => (h σ H Q q).elim⟩
mutual
theorem sP (gd : Good X g ck con C N sc W k) : ∀ (i : IE) (e : Expr), pureE i = true → chkE ck N sc i e = true → PE X e (TUv (Gx X g) w0 H0 (Rep (Gx X g)) <| fun env st => evE con C TD env i st)
  | .var i, e, _, h => by
    simp only [chkE] at h
    split at h <;> first | cases h | skip
    rename_i x pos
    unfold varB at h
    simp only [Bool.and_eq_true] at h
    obtain ⟨p1, p2⟩ := plain_ok h.2
    refine PE.imp (pe_var (i := i) (by rw [gd.hN]; exact slotB_ok h.1.1) (gd.vis h.1.2) p1 p2) fun σ H Q ⟨env, w, st, a, st', fr, e, q⟩ => ?_
    dsimp only at e
    unfold evE at e
    cases z : env[i]? with
    | none => rw [z] at e; cases e
    | some s =>
      rw [z] at e
      match s, e, z with
      | some (false, d), e, z =>
        cases e
        obtain ⟨v, e, r⟩ := fr.val z
        exact ⟨v, e, q w H v .refl r⟩
      | some (true, d), e, _ => cases e
      | none, e, _ => cases e
  | .non, e, _, h => by
    simp only [chkE] at h
    split at h <;> first | cases h | skip
    exact PE.imp pe_non fun σ H Q ⟨env, w, st, a, st', fr, e, q⟩ => by cases e; exact q w H _ .refl .non
  | .bl b, e, _, h => by
    simp only [chkE] at h
    split at h <;> first | cases h | skip
    rw [beq_iff_eq] at h
    subst h
    exact PE.imp pe_bl fun σ H Q ⟨env, w, st, a, st', fr, e, q⟩ => by cases e; exact q w H _ .refl (.bl _)
  | .int i, e, _, h => by
    simp only [chkE] at h
    split at h <;> first | cases h | skip
    · rw [beq_iff_eq] at h
      subst h
      exact PE.imp pe_int fun σ H Q ⟨env, w, st, a, st', fr, e, q⟩ => by cases e; exact q w H _ .refl (.int _)
    · rw [beq_iff_eq] at h
      subst h
      exact PE.imp (pe_un un_neg pe_int) fun σ H Q ⟨env, w, st, a, st', fr, e, q⟩ => by cases e; exact ⟨_, rfl, q w H _ .refl (.int _)⟩
  | .str s, e, _, h => by
    simp only [chkE] at h
    split at h <;> first | cases h | skip
    have := eqN_iff.mp h
    subst this
    exact PE.imp pe_str fun σ H Q ⟨env, w, st, a, st', fr, e, q⟩ => by cases e; exact q w H _ .refl (.str _)
  | .glob j, e, _, h => by
    simp only [chkE] at h
    split at h <;> first | cases h | skip
    cases hd : con j with
    | none => exact PE.never fun σ H Q ⟨env, w, st, a, st', fr, e, q⟩ => by dsimp only at e; unfold evE at e; rw [hd] at e; cases e
    | some d =>
      refine r_glob gd h hd fun σ H Q v ⟨env, w, st, a, st', fr, e, q⟩ rp => ?_
      dsimp only at e; unfold evE at e; rw [hd] at e
      cases e
      exact q w H _ .refl (rp w H)
  | .tup es, e, p, h => by
    simp only [chkE] at h
    split at h <;> first | cases h | simp only [Bool.and_eq_true] at h
    refine PE.imp (pe_tupF (sPs gd es _ p h.2)) fun σ H Q ⟨env, w, st, a, st', fr, e, q⟩ => ?_
    dsimp only at e
    unfold evE at e
    obtain ⟨ds, s1, e1, e⟩ := R.bind_eq_ok e
    cases e
    have h1 := pures_st es p e1
    subst h1
    refine U.seq fr e1 rfl fun vs w1 H1 f1 x1 r1 => ⟨?_, fun p' o hp ho => (U.fin q x1).tup f1.wr r1 p' o hp ho⟩
    rw [← r1.length, sizeLine_eq, evEs_len es e1]; have := Nat.le_of_ble_eq_true h.1; omega
  | .lst es, e, p, h => by
    simp only [chkE] at h
    split at h <;> first | cases h | simp only [Bool.and_eq_true] at h
    refine PE.imp (pe_lst (sPs gd es _ p h.2)) fun σ H Q ⟨env, w, st, a, st', fr, e, q⟩ => ?_
    dsimp only at e
    unfold evE at e
    obtain ⟨ds, s1, e1, e⟩ := R.bind_eq_ok e
    cases e
    have h1 := pures_st es p e1
    subst h1
    refine U.seq fr e1 rfl fun vs w1 H1 f1 x1 r1 => ⟨?_, fun p' hp => (U.fin q x1).lst f1.wr r1 p' hp⟩
    rw [← r1.length, sizeLine_eq, evEs_len es e1]; have := Nat.le_of_ble_eq_true h.1; omega
  | .op o a b, e, p, h => by
    simp only [pureE, Bool.and_eq_true] at p
    have na := fun env st d st' => pure_st (con := con) (C := C) (TD := TD) a (env := env) (st := st) (d := d) (st' := st') p.1
    have nb := fun env st d st' => pure_st (con := con) (C := C) (TD := TD) b (env := env) (st := st) (d := d) (st' := st') p.2
    have two := fun (σ : L2.St) (H : Hp) (Q : VK) => U.two (X := X) (g := g) (w0 := w0) (H0 := H0) (f := fun st x y => op2 st o x y) (σ := σ) (H := H) (Q := Q) na nb
    simp only [chkE] at h
    split at h <;> first | cases h | simp only [Bool.and_eq_true] at h
    · obtain ⟨⟨⟨ho, hn⟩, h1⟩, h2⟩ := h
      have : o = .idx := by cases o <;> first | rfl | cases ho
      subst this
      have h3 := gd.u64
      exact PE.imp (pe_ix (o_idx (by omega)) (sP gd a _ p.1 h1) (sP gd b _ p.2 h2) (plainIx_ok hn)) two
    · obtain ⟨⟨ho, h1⟩, h2⟩ := h
      exact PE.imp (pe_op (bin_r ho) (sP gd a _ p.1 h1) (sP gd b _ p.2 h2)) two
    · obtain ⟨⟨⟨ho, hn⟩, h1⟩, h2⟩ := h
      exact PE.imp (pe_cmpR (cmp_r gd ho) (sP gd a _ p.1 h1) (sP gd b _ p.2 h2) (behind_ok hn)) two
  | .bi b es, e, p, h => by
    simp only [chkE] at h
    split at h <;> first | cases h | simp only [Bool.and_eq_true] at h
    rename_i x p1 e args p2
    refine PE.imp (bi_pe gd h.1 (chkEs_star es h.2) (sPs gd es _ p h.2)) fun σ H Q ⟨env, w, st, a, st', fr, e, q⟩ => ?_
    dsimp only at e
    unfold evE at e
    obtain ⟨ds, s1, e1, z1⟩ := R.bind_eq_ok e
    have h1 := pures_st es p e1
    subst h1
    have e := (liftO_st z1).2
    exact U.seq fr e1 rfl fun vs w1 H1 f1 x1 r1 => ⟨w1, _, ds, a, f1.wr, r1, e, U.fin q x1⟩
  | .isi T a, e, p, h => by
    simp only [chkE] at h
    split at h <;> first | cases h | simp only [Bool.and_eq_true] at h
    refine PE.imp (isi_pe gd h.1.1.1 h.1.1.2 h.1.2 (sP gd a _ p h.2)) fun σ H Q ⟨env, w, st, d, st', fr, e, q⟩ => ?_
    dsimp only at e
    unfold evE at e
    obtain ⟨y, s1, e1, z1⟩ := R.bind_eq_ok e
    have h1 := pure_st a p e1
    subst h1
    have z2 := (liftO_st z1).2
    refine U.seq fr e1 rfl fun v w1 H1 f1 x1 r1 => ?_
    unfold bD at z2
    simp only [Option.map_eq_some_iff] at z2
    obtain ⟨b, z3, rfl⟩ := z2
    exact ⟨w1, _, y, v, b, rfl, f1.wr, r1, z3, (U.fin q x1).here (.bl b)⟩
  | .x1 _ _, _, p, _ => by cases p
  | .x2 _ _ _, _, p, _ => by cases p
  | .dct1 _, _, p, _ => by cases p
  | .lstH _, _, p, _ => by cases p
  | .dct _ _, _, p, _ => by cases p
  | .chn _ _ _ _ _, _, p, _ => by cases p
  | .and2 _ _, _, p, _ => by cases p
  | .or2 _ _, _, p, _ => by cases p
  | .not_ _, _, p, _ => by cases p
  | .ife _ _ _, _, p, _ => by cases p
  | .call _ _, _, p, _ => by cases p
  | .slc _ _ _, _, p, _ => by cases p
  | .rev _, _, p, _ => by cases p
  | .lc _ _ _ _, _, p, _ => by cases p
  | .lcf _ _ _ _ _, _, p, _ => by cases p
  | .dc _ _ _ _ _, _, p, _ => by cases p
  | .skey _, _, p, _ => by cases p
  | .told _ _, _, p, _ => by cases p
  | .bor _, _, p, _ => by cases p
  | .idxO _ _, _, p, _ => by cases p
theorem sPs (gd : Good X g ck con C N sc W k) : ∀ (is : IEs) (es : List Expr), pureEs is = true → chkEs ck N sc is es = true → PA X es (TUv (Gx X g) w0 H0 (RepAll (Gx X g)) <| fun env st => evEs con C TD env is st)
  | .nil, es, _, h => by
    cases es with
    | nil => exact PA.imp pa_nil fun σ H Q ⟨env, w, st, a, st', fr, e, q⟩ => by cases e; exact q w H _ .refl .nil
    | cons e es => simp [chkEs] at h
  | .cons i is, es, p, h => by
    cases es with
    | nil => simp [chkEs] at h
    | cons e es =>
      simp only [chkEs, Bool.and_eq_true] at h
      simp only [pureEs, Bool.and_eq_true] at p
      refine PA.imp (pa_cons (sP gd i e p.1 h.1.2) (sPs gd is es p.2 h.2) (star_ok h.1.1 _ _)) fun σ H Q ⟨env, w, st, a, st', fr, e, q⟩ => ?_
      dsimp only at e
      unfold evEs at e
      obtain ⟨d, s1, e1, e⟩ := R.bind_eq_ok e
      obtain ⟨ds, s2, e2, e⟩ := R.bind_eq_ok e
      cases e
      have h1 := pure_st i p.1 e1; subst h1
      have h2 := pures_st is p.2 e2; subst h2
      exact U.seq fr e1 rfl fun v w1 H1 f1 x1 r1 => U.seq f1 e2 rfl fun vs w2 H2 f2 x2 r2 => q w2 H2 _ (x1.trans x2) (.cons (r1.mono (x2.ext.le f1.wr)) r2)
end
end
end Ev
namespace Ev
open PySem PySem.Spec PyProof.Rows L2
section
variable {G : GC} {w0 : Wd} {H0 : Hp} {env : EvEnv} {σ : L2.St} {w w1 w2 : Wd} {H H1 : Hp} {st st1 : HSt}
/-- the heap is more, the world as before -/
theorem PExt.down (l : Le w H w2 H) (hL : w2.L = w.L) (x : PExt w2 H w1 H1) : PExt w H w H1 := ⟨fun _ h => h, rfl, x.same, fun _ h => .inl h⟩
end
section
variable {X : Cx} {g : GN} {ck : CK} {con : Nat → Option D} {C : CT} {TD : Nat → Nat → Option D} {N : List Str} {sc : Scope} {W : WX} {k : Nat} {w0 : Wd} {H0 : Hp}
variable {ea eb : EvEnv → HSt → R D} {e : Expr}
def borV (r : R D) : R D := match r with
  | .ok d st => if flatD d then .ok d st else .bad
  | _ => .bad
theorem r_bor (hs : ∀ env st d st', ea env st = .ok d st' → st' = st) (h : PE X e (TUv (Gx X g) w0 H0 (Rep (Gx X g)) <| ea)) : PE X e (TEv (Gx X g) w0 H0 W <| fun env st => borV (ea (frzE env) st)) := by
  refine PE.imp h fun σ H Q ⟨env, w, st, fr, y⟩ => ?_
  obtain ⟨F', f2, le⟩ := fr.frzAll
  dsimp only at y
  unfold borV at y
  cases q : ea (frzE env) st with
  | exc c s => rw [q] at y; exact y.elim
  | bad => rw [q] at y; exact y.elim
  | ok d s =>
    rw [q] at y
    have := hs _ _ _ _ q
    subst this
    dsimp only at y
    split at y
    · rename_i hf
      refine ⟨frzE env, _, s, d, s, f2, q, fun w' H' v x r => ?_⟩
      have x2 := PExt.down le rfl x
      exact Yl.pext (a := d) y fr.wr x2 (r.flat hf)
    · exact y.elim
theorem t_bor (hs : ∀ env st d st', ea env st = .ok d st' → st' = st) (h : PT X e (TUv (Gx X g) w0 H0 (fun _ _ (b : Bool) c => b = c) fun env st => toB (ea env st))) : PT X e (TBv (Gx X g) w0 H0 W <| fun env st => borV (ea (frzE env) st)) := by
  refine PT.imp h fun σ H Q ⟨env, w, st, fr, y⟩ => ?_
  obtain ⟨F', f2, le⟩ := fr.frzAll
  dsimp only at y
  unfold borV at y
  cases q : ea (frzE env) st with
  | exc c s => rw [q] at y; exact y.elim
  | bad => rw [q] at y; exact y.elim
  | ok d s =>
    rw [q] at y
    have := hs _ _ _ _ q
    subst this
    dsimp only at y
    split at y
    · cases d with
      | bl b =>
        refine ⟨frzE env, _, s, b, s, f2, by dsimp only; rw [q]; rfl, fun w' H' v x r => ?_⟩
        have x2 := PExt.down le rfl x
        exact Yl.pext (a := b) y fr.wr x2 r
      | _ => exact y.elim
    · exact y.elim
theorem u_cmpT {o : OP} {op : CmpOp} {pos : Pos} {a b : Expr} (gd : Good X g ck con C N sc W k) (na : ∀ env st d st', ea env st = .ok d st' → st' = st) (nb : ∀ env st d st', eb env st = .ok d st' → st' = st) (ho : cmpO o op = true) (hn : notSet b = true) (ha : PE X a (TUv (Gx X g) w0 H0 (Rep (Gx X g)) <| ea)) (hb : PE X b (TUv (Gx X g) w0 H0 (Rep (Gx X g)) <| eb)) :
    PT X (.Compare a [op] [b] pos) (TUv (Gx X g) w0 H0 (fun _ _ (b : Bool) c => b = c) fun env st => toB ((ea env st).bind fun x st => (eb env st).bind fun y st => liftO (op2 st o x y) st)) := by
  refine PT.imp (pt_cmpR (cmp_r gd ho) ha hb (behind_ok hn)) fun σ H Q ⟨env, w, st, bv, st', fr, e, q⟩ => ?_
  dsimp only at e
  unfold toB at e
  obtain ⟨d, s1, e1, e2⟩ := R.bind_eq_ok e
  cases d with
  | bl t =>
    cases e2
    refine U.two na nb ⟨env, w, st, .bl bv, st', fr, e1, fun w' H' v x r => ?_⟩
    cases rep_bl r
    exact ⟨bv, rfl, q w' H' _ x rfl⟩
  | _ => cases e2
/-- an own list or dict by place -/
def tOwnV (i : Nat) : TE := tVar i
theorem r_idxO {i : Nat} {x : Str} {b : Expr} {p pos : Pos} (gd : Good X g ck con C N sc W k) (hx : varB N sc i x = true) (hn : notSlice b = true) (hb : PE X b (TEv (Gx X g) w0 H0 W <| eb)) :
    PE X (.Subscript (.Name x p) b pos) (TEv (Gx X g) w0 H0 W <| fun env st => match env[i]? with | some (some (true, d)) => (eb env st).bind fun y st => liftO (idxD st d y) st | _ => .bad) := by
  unfold varB at hx
  simp only [Bool.and_eq_true] at hx
  obtain ⟨p1, p2⟩ := plain_ok hx.2
  have h1 := gd.u64
  have key : IxR X (fun x y H Q => ∃ (w : Wd) (st : HSt) (d d2 e : D) (a : Addr), x = .ref a ∧ WRel (Gx X g) w H st ∧ OwnAt (Gx X g) w H d a ∧ Rep (Gx X g) w H d2 y ∧ idxD st d d2 = some e ∧ ∀ v, Rep (Gx X g) w H e v → Q v H) := by
    intro value slice pins s σ H x y v u Q I rx ry ⟨w, st, d1, d2, d, a, ex, wr, o1, r2, e, p⟩ hs
    subst ex
    obtain rfl : v = Value.ref a := rx
    cases d1 with
    | dk ks vs =>
      obtain ⟨ws, hh, hl, q⟩ := o1
      obtain ⟨k, ek, lk⟩ := idxD_dict (ks := ks) (vs := vs) rfl e
      have ex := keyD_kV ek r2
      subst ex
      have lv := look_valV (k := k) hl q
      rw [lk] at lv
      obtain ⟨z, ez, rz⟩ := lv
      have dg : DGet H a (kV (kyK k)) (some z) := by rw [← ez]; exact DGet.k hh
      exact tail_any (dict_typeIs I dg) PySem.F.slot_dict_getitem.lookup (d_getItem (by omega) I dg ry fun w' s' I' r' => ⟨z, H, I', r', p z rz⟩) hs
    | lst ds =>
      obtain ⟨vs, hh, ra⟩ := o1
      obtain ⟨i, j, ds', rfl, h0, h1, h2⟩ := idxD_seq (a := .lst ds) rfl (fun s e => by cases e) e
      cases h0
      cases rep_int r2
      obtain ⟨z, ez, rz⟩ := ra.get h2
      have ha : L2.atI vs i = some z := by unfold L2.atI; rw [← ra.length, idxN_at h1]; exact ez
      exact ix_list value slice pins s σ H (.ref a) (.int i) (.ref a) u Q I rfl ry ⟨a, vs, i, z, rfl, rfl, SqL.of hh, ha, p z rz⟩ hs
    | _ => exact o1.elim
  refine PE.imp (pe_ix key (pe_var (pos := p) (i := i) (by rw [gd.hN]; exact slotB_ok hx.1.1) (gd.vis hx.1.2) p1 p2) hb (plainIx_ok hn)) fun σ H Q ⟨env, w, st, fr, y⟩ => ?_
  dsimp only at y
  cases q : env[i]? with
  | none => rw [q] at y; exact y.elim
  | some s =>
    rw [q] at y
    match s, y, q with
    | none, y, _ => exact y.elim
    | some (false, d), y, _ => exact y.elim
    | some (true, d), y, q =>
      obtain ⟨a, z1, z2, z3, z4, z5⟩ := fr.sl i _ q
      refine ⟨.ref a, z1, T.seq fr y fun d2 v2 w1 H1 st1 _ fr1 x1 r1 y1 => ?_⟩
      obtain ⟨e, he, py⟩ := Yl.lift y1 fr1.wr
      obtain ⟨a', z1', _, _, _, z5'⟩ := fr1.sl i _ q
      rw [z1] at z1'; cases z1'
      exact ⟨w1, st1, d, d2, e, a, rfl, fr1.wr, z5', r1, he, fun v r => py.here r⟩
theorem i_own {i : Nat} {x : Str} {p : Pos} {tg : Expr} (gd : Good X g ck con C N sc W k) (hx : varB N sc i x = true) :
    PI X tg (.Name x p) (TIv (Gx X g) w0 H0 W false fun env st => match env[i]? with | some (some (true, .lst ds)) => .ok ds st | _ => .bad) := by
  unfold varB at hx
  simp only [Bool.and_eq_true] at hx
  obtain ⟨p1, p2⟩ := plain_ok hx.2
  refine PI.imp (pi_any (pe_var (pos := p) (i := i) (by rw [gd.hN]; exact slotB_ok hx.1.1) (gd.vis hx.1.2) p1 p2)) fun σ H R ⟨env, w, st, fr, y⟩ => ?_
  dsimp only at y
  cases q : env[i]? with
  | none => rw [q] at y; exact y.elim
  | some s =>
    rw [q] at y
    match s, y, q with
    | none, y, _ => exact y.elim
    | some (false, d), y, _ => exact y.elim
    | some (true, d), y, q =>
      cases d with
      | lst ds =>
        obtain ⟨a, z1, z2, z3, z4, vs, z5, z6⟩ := fr.sl i _ q
        refine ⟨.ref a, z1, .inr ⟨a, rfl, .inl ⟨⟨vs, SqL.of z5⟩, Yl.ok (a := ds) y fr.wr ?_⟩⟩⟩
        intro w1 H1 st1 x wr1 j
        have le := x.le fr.wr
        have sq : SqL (Gx X g).K H1 a vs := SqL.of ((x.own z2 z3 ⟨_, z5, fun ps => by simp⟩).2.2.trans z5)
        refine ⟨fun d e => ?_, fun h => ⟨vs, sq, by rw [← z6.length]; exact h⟩⟩
        obtain ⟨v, ev, rv⟩ := z6.get e
        refine ⟨⟨vs, v, sq, ev⟩, fun x' H' y => ?_⟩
        obtain ⟨rfl, y⟩ := y
        have := y vs sq
        rw [ev] at this; cases this
        exact ⟨w1, .refl, .inl (rv.mono le)⟩
      | _ => exact y.elim
/-- f(lambda: e) -/
theorem r_told {x : Str} {f : Nat} {body : Expr} {scope : Scope} {p lpos pos : Pos} {ee : EvEnv → HSt → R D} (gd : Good X g ck con C N sc W k) (h1 : ck.lam = true) (h2 : ck.tld f = true) (hx : globB sc x (ck.tn f) = true) (hL : LamX.lamSB sc scope = true)
    (hb : ∀ (A : Around) (outer : List Env) (s : Shared) (H : Hp) (E : XK) (fa c' : Addr), Good (lamN X A outer s H E scope fa c') g { ck with lam := false } con C N scope (fun cls d _ H => E cls d H) k → PE (lamN X A outer s H E scope fa c') body (TEv (Gx X g) w0 H0 (fun cls d _ H => E cls d H) ee)) :
    PE X (.Call (.Name x p) [.Lambda ⟨[], [], none, [], [], none, []⟩ body scope lpos] [] pos) (TEv (Gx X g) w0 H0 W <| fun env st => tdR g.td f (ee env st)) := by
  obtain ⟨rfl, hg1, hg2⟩ := globB_ok hx
  have l := gd.lamOk h1
  obtain ⟨c, P, TB, hcode, hmT, hu⟩ := l.tab
  obtain ⟨fa, pg, bg, sg, dV, kV, doc, pm, cdv, ct, oc, an, od, osl, Ng, a, hm, hk, lk, hcg, hB, Sg, hNg, hva, hpa, hG⟩ := (l.told f h2).ex
  have L : LamX.LamS X.env.scope scope := by rw [gd.hs]; exact LamX.lamS_by hL
  have key := lamcallN (T := g.T) (TT := TTd (Gx X g) (g.td f)) (t := fun E => TEv (Gx X g) w0 H0 (fun cls d _ H => E cls d H) ee) (body := body) (p := p) (lpos := lpos) (pos := pos) (params := ⟨[], [], none, [], [], none, []⟩) (gd.gl hg1) hm hk lk hcg hB Sg hNg hva (hG _) TB hcode hmT hu l.room L rfl (fun _ _ _ _ _ => rfl)
    (fun A outer s H E fa c' hr => hb A outer s H E fa c' ⟨gd.hN, gd.nd, rfl, rfl, hr, L2N.takes_of rfl rfl rfl rfl, ⟨gd.mg.bi, gd.mg.isi, gd.mg.enum, gd.mg.zip, gd.mg.range, gd.mg.bool, gd.mg.con, gd.mg.kd, gd.mg.set_⟩, fun f h => let ⟨a, fd, ps, r⟩ := (gd.fn f h).ex; ⟨⟨a, fd, ps, r⟩⟩, fun z => nomatch z⟩)
    (plain_ok hg2).1 (plain_ok hpa).1 (plain_ok hpa).2
  refine PE.imp key fun σ H Q ⟨env, w, st, fr, y⟩ => ⟨fr.wr.tb, fun H1 eN T1 => ?_⟩
  have x : Ext w H w H1 := ⟨fun _ h => h, fun _ _ h => h, fun a o h _ n => eN a o h n, fun _ h => .inl h, fun _ h => .inl h, fun a o h n => ⟨o, eN a o h n, n⟩⟩
  have le := x.le fr.wr
  have wr1 : WRel (Gx X g) w H1 st := ⟨fun a h => by rw [le.eq a h]; exact fr.wr.fz a h, fr.wr.sep, fr.wr.nd, fr.wr.len, fun n hd h => by
    obtain ⟨a, e, q⟩ := fr.wr.at_ n hd h
    obtain ⟨o, e1, e2⟩ := q.pl
    exact ⟨a, e, q.mono le ((eN a o e1 e2.1).trans e1.symm)⟩, fun a o h e => fr.wr.nt a o h (by rw [← le.eq a h]; exact e), T1⟩
  refine ⟨env, w, st, fr.step x wr1, ?_⟩
  have y1 := Yl.ext y x
  dsimp only at y1 ⊢
  cases q : ee env st with
  | ok d s => rw [q] at y1; exact y1
  | bad => rw [q] at y1; exact y1
  | exc c s =>
    rw [q] at y1
    cases q2 : g.td f c with
    | none => simp only [tdR, q2, liftO_none] at y1; exact y1.elim
    | some d =>
      simp only [tdR, q2, liftO_some] at y1
      exact fun w' H' x' wr => ⟨rfl, c, d, w', s, rfl, q2, wr, fun w2 H2 v px r => y1 w2 H2 v (x'.trans px.ext) (px.wrel wr) r⟩
end
end Ev
namespace Ev
open PySem PySem.Spec PyProof.Rows L2
/-! ### sorted(xs, key=lambda _law_row: _law_row[0]) -/
theorem row_call {prog : Program} {wd : World} {A : Around} {s : Shared} {f c' a : Addr} {q z : Str} {t0 : Tok} {scope : Scope} {cl : List (Str × Addr)} {pm ctv : Value} {p1 p2 p3 p4 : Pos} {j : Nat} {its : List Value}
    (dp : A.depth < recursionLimit) (hf : s.heap.get? f = some (PySem.W.kla_obj "<lambda>" q ⟨[], [⟨rowN, none, p4⟩], none, [], [], none, []⟩ (.Subscript (.Name rowN p1) (.Constant (.int 0) j p2) p3) scope cl pm c' ctv))
    (hcd : ∃ (oc : Obj) (vs : Array Value) (t : Tok), s.heap.get? c' = some oc ∧ oc.data = .fields vs ∧ vs[1]? = some (.str q t)) (lim : s.heap.NoLimit)
    (hk : scope.kind = .function) (hco : scope.isCoroutine = false) (hgen : scope.isGenerator = false) (hcell : ∀ y ∈ scope.names, y.2 ≠ .cell) (hl : scope.names.lookup rowN = some .local)
    (ht : IsTup s.heap a (Value.str z t0 :: its).toArray) (hz : its.length + 1 ≤ sizeLine) :
    wpAny (model prog wd) A (call (.ref f) [.ref a]) (PySem.W.KeyPure (.str z) s) (fun _ _ => False) s := by
  obtain ⟨oc, vs, tq, hoc, hdc, hvc⟩ := hcd
  refine wpAny_call (PySem.W.kla_callFunE dp hf rfl hco hgen rfl ⟨c', oc, vs, tq, rfl, hoc, hdc, hvc⟩ ?_)
  rw [show bindArgs (PySem.W.kla_fn "<lambda>" q ⟨[], [⟨rowN, none, p4⟩], none, [], [], none, []⟩ (.Subscript (.Name rowN p1) (.Constant (.int 0) j p2) p3) scope cl pm (.ref c') ctv) ⟨[.ref a], []⟩ = pure [(rowN, .ref a)] from rfl]
  refine wpAny_pure (wpAny_newFunctionEnv hcell (fun y hy => ?_) (fun h₁ hns hsb => ⟨lim.fresh _ hsb, ?_⟩) hk)
  · rw [List.mem_singleton.mp hy]; exact hl
  show codeAny _ _ (.expr _ (PySem.W.envX q scope s.heap.objs.size f (.ref c') cl)) _ _
  have kp : ∀ b o, s.heap.get? b = some o → h₁.get? b = some o := fun b o e => hsb.extBut b o (Nat.ne_of_lt (Heap.lt_size e)) (Heap.get?_push_of_some _ e)
  refine PySem.W.kla_codeExpr (Subscript_Constant (wpAny_Name (wpAny_loadName_local (v := .ref a) hk hl hns (by first | rfl | (simp [List.lookup]; done)) ?_)))
  refine wpAny_Constant_int ⟨"tuple", _, PySem.F.slot_tuple_getitem.lookup, ?_, ?_⟩
  · obtain ⟨o, e1, e2, n, e3⟩ := ht
    exact ⟨o, kp _ _ e1, e2⟩
  · obtain ⟨o, e1, e2, n, e3⟩ := ht
    have ln := line63
    refine getItem_tuple (j := 0) (items := (Value.str z t0 :: its).toArray) (x := .str z t0) ⟨o, kp _ _ e1, e2, n, e3⟩ (by decide) (by decide) ?_ (by simp) ?_
    · simp only [List.size_toArray, List.length_cons]
      unfold seqIndex?
      simp
    · exact ⟨h₁, _, rfl, kp, .str z t0⟩
/-- nothing but a lambda was made -/
theorem WRel.lam {G : GC} {w : Wd} {H H1 : Hp} {st : HSt} (wr : WRel G w H st) (eN : LamX.ExtN H H1) (T1 : LamX.Tabs G.T H1) : Ext w H w H1 ∧ WRel G w H1 st := by
  have x : Ext w H w H1 := ⟨fun _ h => h, fun _ _ h => h, fun a o h _ n => eN a o h n, fun _ h => .inl h, fun _ h => .inl h, fun a o h n => ⟨o, eN a o h n, n⟩⟩
  have le := x.le wr
  exact ⟨x, fun a h => by rw [le.eq a h]; exact wr.fz a h, wr.sep, wr.nd, wr.len, fun n hd h => by
    obtain ⟨a, e, q⟩ := wr.at_ n hd h
    obtain ⟨o, e1, e2⟩ := q.pl
    exact ⟨a, e, q.mono le ((eN a o e1 e2.1).trans e1.symm)⟩, fun a o h e => wr.nt a o h (by rw [← le.eq a h]; exact e), T1⟩
structure Row where
  d : D
  v : V
  z : List Nat
theorem sortK_ms : ∀ (bs : List Row), (∀ b ∈ bs, firstS b.d = some b.z) → sortK (bs.map Row.d) = some ((bs.mergeSort fun a b => !ltN b.z a.z).map fun b => (b.z, b.d))
  | [], _ => by simp [sortK]
  | a :: bs, h => by
    have ih := sortK_ms bs fun b hb => h b (List.mem_cons_of_mem _ hb)
    have tr : ∀ a b c : Row, (!ltN b.z a.z) = true → (!ltN c.z b.z) = true → (!ltN c.z a.z) = true := fun a b c h1 h2 => by
      rw [Bool.not_eq_true'] at *
      exact leN_trans h1 h2
    have tot : ∀ a b : Row, ((!ltN b.z a.z) || (!ltN a.z b.z)) = true := fun a b => by
      cases q : ltN b.z a.z with
      | false => rfl
      | true =>
        cases q2 : ltN a.z b.z with
        | false => rfl
        | true => have := ltN_trans q q2; rw [ltN_irr] at this; cases this
    obtain ⟨l1, l2, e1, e2, e3⟩ := List.mergeSort_cons (le := fun a b : Row => !ltN b.z a.z) tr tot a bs
    have srt := List.pairwise_mergeSort (le := fun a b : Row => !ltN b.z a.z) tr tot (a :: bs)
    rw [e1] at srt
    simp only [List.map_cons, sortK, h a List.mem_cons_self, Option.bind_some, ih, Option.map_some]
    rw [e1, e2]
    congr 1
    clear e1 e2 ih h
    induction l1 with
    | nil =>
      cases l2 with
      | nil => rfl
      | cons c l2 =>
        simp only [List.nil_append, List.pairwise_cons] at srt
        have := srt.1 c List.mem_cons_self
        simp only [List.nil_append, List.map_cons, insK]
        rw [Bool.not_eq_true'] at this
        rw [this]
        rfl
    | cons b l1 ih =>
      have h1 := e3 b List.mem_cons_self
      simp only [Bool.not_not] at h1
      simp only [List.cons_append, List.map_cons, insK]
      rw [if_pos h1]
      congr 1
      exact ih (fun c hc => e3 c (List.mem_cons_of_mem _ hc)) (List.pairwise_cons.mp srt).2
theorem firstS_tup {d : D} {z : List Nat} (h : firstS d = some z) : ∃ rest, d = .tup (.str z :: rest) := by
  unfold firstS at h
  split at h
  · cases h; exact ⟨_, rfl⟩
  · cases h
theorem sortK_rows : ∀ {G : GC} {w : Wd} {H : Hp} {ds : List D} {vs : List V} {l : List (List Nat × D)}, sortK ds = some l → RepAll G w H ds vs → ∃ bs : List Row, bs.map Row.d = ds ∧ bs.map Row.v = vs ∧ ∀ b ∈ bs, firstS b.d = some b.z ∧ Rep G w H b.d b.v
  | G, w, H, [], vs, l, h, r => by cases r; exact ⟨[], rfl, rfl, fun b hb => by cases hb⟩
  | G, w, H, d :: ds, vs, l, h, r => by
    simp only [sortK, Option.bind_eq_some_iff, Option.map_eq_some_iff] at h
    obtain ⟨z, hz, l', hl, _⟩ := h
    cases r with
    | @cons _ _ v vs' r1 r2 =>
      obtain ⟨bs, e1, e2, e3⟩ := sortK_rows hl r2
      exact ⟨⟨d, v, z⟩ :: bs, by simp [e1], by simp [e2], fun b hb => by
        rcases List.mem_cons.mp hb with e | hb
        · subst e; exact ⟨hz, r1⟩
        · exact e3 b hb⟩
theorem reps_rows {G : GC} {w : Wd} {H : Hp} : ∀ {bs : List Row}, (∀ b ∈ bs, Rep G w H b.d b.v) → RepAll G w H (bs.map Row.d) (bs.map Row.v)
  | [], _ => .nil
  | b :: bs, h => .cons (h b List.mem_cons_self) (reps_rows fun c hc => h c (List.mem_cons_of_mem _ hc))
theorem each_rows {bs : List Row} : ∀ {us : List Value}, Vals (bs.map Row.v) us → PySem.W.EachIs (fun u (b : Row) => RelV b.v u) us bs := by
  induction bs with
  | nil => intro us h; cases h; exact .nil
  | cons b bs ih =>
    intro us h
    cases h with
    | cons r t => exact .cons r (ih t)
theorem vals_rows {bs : List Row} {us : List Value} (h : PySem.W.EachIs (fun u (b : Row) => RelV b.v u) us bs) : Vals (bs.map Row.v) us := by
  induction h with
  | nil => exact .nil
  | cons r _ ih => exact .cons r ih
section
variable {X : Cx} {g : GN} {ck : CK} {con : Nat → Option D} {C : CT} {N : List Str} {sc : Scope} {W : WX} {k : Nat} {w0 : Wd} {H0 : Hp}
variable {ea : EvEnv → HSt → R D} {e : Expr}
theorem r_skey {x kn r r' : Str} {scope : Scope} {p pos p1 p2 p3 p4 p5 p6 : Pos} {j : Nat} (gd : Good X g ck con C N sc W k) (h1 : ck.lam = true) (hx : globB sc x (biN .sorted) = true) (hkn : seq kn "key" = true) (hr : seq r rowN = true) (hr' : seq r' rowN = true) (hsc : rowB scope = true) (hst : notStar e = true) (ha : PE X e (TEv (Gx X g) w0 H0 W <| ea)) :
    PE X (.Call (.Name x p) [e] [⟨some kn, .Lambda ⟨[], [⟨r, none, p4⟩], none, [], [], none, []⟩ (.Subscript (.Name r' p1) (.Constant (.int 0) j p2) p3) scope p5, p6⟩] pos)
      (TEv (Gx X g) w0 H0 W <| fun env st => (ea env st).bind fun x st => match x with | .lst ds => liftO ((sortK ds).map fun l => .lst (l.map (·.2))) st | _ => .bad) := by
  obtain ⟨rfl, hg1, hg2⟩ := globB_ok hx
  have := seq_eq hkn; subst this
  have := seq_eq hr; subst this
  have := seq_eq hr'; subst this
  have l := gd.lamOk h1
  obtain ⟨c, P, TB, hcode, hmT, hu⟩ := l.tab
  unfold rowB at hsc
  simp only [Bool.and_eq_true, List.all_eq_true, Bool.not_eq_true'] at hsc
  obtain ⟨⟨⟨⟨s1, s2'⟩, s3'⟩, s4⟩, s5⟩ := hsc
  have hk : scope.kind = .function := by
    unfold isFunK at s1
    split at s1 <;> first | assumption | cases s1
  have hl : scope.names.lookup rowN = some .local := by
    rw [lookN_eq] at s5
    cases q : scope.names.lookup rowN with
    | none => rw [q] at s5; cases s5
    | some z => rw [q] at s5; cases z <;> first | rfl | cases s5
  refine ⟨fun pins s σ H Q I ⟨env, w, st, fr, y⟩ => ?_⟩
  refine wpAny_Call_Name_kw (ld_blt I (gd.gl hg1) (gd.mg.bi .sorted) (bi_boot .sorted) ?_ (bi_name .sorted) (plain_ok hg2).1)
  have step : (TEv (Gx X g) w0 H0 W <| ea) σ H fun v H1 => ∃ v', [v] = [v'] ∧ ∃ w1 st1 ds, FR (Gx X g) w0 H0 env σ w1 H1 st1 ∧ Rep (Gx X g) w1 H1 (.lst ds) v' ∧ Yl (Gx X g) W (Rep (Gx X g)) σ w1 H1 (liftO ((sortK ds).map fun l => .lst (l.map (·.2))) st1) Q := by
    refine T.seq fr y fun d v w1 H1 st1 _ fr1 _ r1 y1 => ?_
    cases d with
    | lst ds => exact ⟨v, rfl, w1, st1, ds, fr1, r1, y1⟩
    | _ => exact y1.elim
  refine PyProof.Rows.callWith_kw (thn ((pa_cons ha pa_nil (star_ok hst _ _)).run pos pins s σ H (fun vs H1 => ∃ v, vs = [v] ∧ ∃ w1 st1 ds, FR (Gx X g) w0 H0 env σ w1 H1 st1 ∧ Rep (Gx X g) w1 H1 (.lst ds) v ∧ Yl (Gx X g) W (Rep (Gx X g)) σ w1 H1 (liftO ((sortK ds).map fun l => .lst (l.map (·.2))) st1) Q) I ?_) fun us s1 ⟨vs, H1, I1, rv, q1⟩ => ?_) (by rw [star_ok hst]; rfl) (by rw [star_ok hst]; rfl) (by rfl) (by rfl)
  · exact step
  · obtain ⟨v, rfl, w1, st1, ds, fr1, r1, y1⟩ := q1
    obtain ⟨u, rfl, ru⟩ := rv.one
    refine wpAny_evalAll_cons (wpAny_bind (LamX.lam_make2 I1 TB hcode hmT hu fr1.wr.tb rfl (fun y hy e => ?_) fun f c' pm ctv H2 s2 I2 eN T2 hf hfn hfr hco => ?_))
    · have := s4 y hy; rw [e] at this; cases this
    · refine wpAny_bind (wpAny_standAt (wpAny_pure ?_))
      refine wpAny_evalAll_nil ?_
      show wpAny _ _ (call (.builtin "sorted") [u] [(Str.ofString "key", .ref f)]) _ _ _
      obtain ⟨x2, wr2⟩ := fr1.wr.lam eN T2
      have le2 := x2.le fr1.wr
      obtain ⟨d, hd, py⟩ := Yl.lift (Yl.ext y1 x2) wr2
      simp only [Option.map_eq_some_iff] at hd
      obtain ⟨L, hL, rfl⟩ := hd
      cases r1 with
      | @lst a vs _ fa ha1 q =>
        obtain rfl : u = Value.ref a := ru
        obtain ⟨bs, e1, e2, e3⟩ := sortK_rows hL (q.mono le2)
        have hH2 : H2 a = some (.lst vs) := (le2.eq _ fa).trans ha1
        obtain ⟨its, rvs, pl, hz⟩ := I2.list (SqL.of hH2)
        have ea := each_rows (bs := bs) (by rw [e2]; exact rvs)
        have hlen := rvs.length
        have hbl : bs.length = vs.length := by rw [← e2, List.length_map]
        have hun := gd.room.un
        have hdp := gd.room.dp
        refine PySem.W.sorted_key_data (b := false) (bs := bs) (R := fun u (b : Row) => RelV b.v u) (fun b : Row => .str ⟨b.z.toArray⟩) pl.isList ea (PySem.W.AllAlike.of fun _ _ => by simp [PySem.W.alike]) (.inr fun d hd => ?_) ?_ (fun x _ => ?_) (PyProof.Rows.ksk_s1 _ _) (fun _ => PyProof.Rows.ksk_l1 _ _) (fun _ => PyProof.Rows.ksk_t1 _ _) (fun v b rb hb h tk kp => ?_) fun out c0 h' tk kp hN hD hlo eo => ?_
        · obtain ⟨b, _, rfl⟩ := List.mem_map.mp hd
          exact ⟨by simp, by simp⟩
        · rw [hbl]; exact hz
        · simp only [PyData.depth]; omega
        · obtain ⟨hfz, rep⟩ := e3 b hb
          obtain ⟨rest, ed⟩ := firstS_tup hfz
          rw [ed] at rep
          obtain ⟨bd, bv, bz⟩ := b
          dsimp only at rep rb hfz ed ⊢
          cases rep with
          | @tup a' vs' _ ta ra =>
            obtain rfl : v = Value.ref a' := rb
            obtain ⟨its2, r2, hz2, o2, n2, g1, g2, _, g4⟩ := ta.plain I2
            cases ra with
            | @cons _ _ v0 vs'' rs rr =>
              cases rs
              cases r2 with
              | @cons _ u0 _ its' ru0 rt =>
                obtain ⟨t0, rfl⟩ := ru0
                obtain ⟨⟨oc, vcs, tq, hoc, hdc, hvc⟩, _, _⟩ := I2.hok c' _ hco
                have hl2 := rt.length
                refine row_call (its := its') (by show X.A.depth < _; omega) (kp _ _ hf) ⟨oc, vcs, tq, kp _ _ hoc, hdc, hvc⟩ (I2.nolimit.keeps kp) hk s2' s3' (fun y hy e => ?_) hl ⟨o2, kp _ _ g1, g2, n2, g4⟩ ?_
                · have := s4 y hy; rw [e] at this; cases this
                · simp only [List.length_cons] at hz2; omega
        · have le : (PySem.W.dataLe false fun b : Row => PyData.str ⟨b.z.toArray⟩) = fun a b => !ltN b.z a.z := by
            rw [PySem.W.dataLe_str]
            funext a b
            rw [ltN_iff]
            have q : (a.z ≤ b.z) ↔ ¬ (b.z < a.z) := List.not_lt.symm
            simp only [q, decide_not]
          rw [le] at eo
          have hms := sortK_ms bs fun b hb => (e3 b hb).1
          rw [e1, hL] at hms
          cases hms
          have rall : RepAll (Gx X g) w1 H2 ((bs.mergeSort fun a b => !ltN b.z a.z).map Row.d) ((bs.mergeSort fun a b => !ltN b.z a.z).map Row.v) := reps_rows fun b hb => (e3 b (List.mem_mergeSort.mp hb)).2
          have vout := vals_rows eo
          have hp : H2 (s2.heap.objs.size + 1) = none := I2.hok.fresh (Nat.le_succ _)
          have dd : ((bs.mergeSort fun a b => !ltN b.z a.z).map fun b => (b.z, b.d)).map (·.2) = (bs.mergeSort fun a b => !ltN b.z a.z).map Row.d := by
            rw [List.map_map]; rfl
          rw [dd] at py
          refine ⟨.ref (s2.heap.objs.size + 1), _, I2.laid (t' := tk) kp (Nat.le_succ _) (show ObjOk X.prog X.w _ h' _ (.lst ((bs.mergeSort fun a b => !ltN b.z a.z).map Row.v)) from ⟨?_, out, c0, vout, hD⟩), rfl, py.lst wr2 rall _ hp⟩
          rw [List.length_map, List.length_mergeSort, hbl]; exact hz
end
end Ev
/-! sets of texts, any number of them -/
namespace EvT
open PySem PySem.Spec PyProof.Rows L2
def keyX (e : Int × Value) : Str := match e.2 with | .str k _ => k | _ => Str.empty
def GoodX (w : World) (e : Int × Value) : Prop := ∃ k tk, e.2 = Value.str k tk ∧ e.1 = hashStr w k
/-- a set of texts that can be walked: S tells its members, n how many -/
def SetX (w : World) (h : Heap) (a : Addr) (S : Str → Bool) (n : Nat) : Prop :=
  ∃ o fs ep t, h.get? a = some o ∧ o.ExactSet ∧ o.data = .set fs ep t ∧ (∀ e ∈ fs.toList, GoodX w e) ∧ (fs.toList.map keyX).Nodup ∧ (∀ k, S k = true ↔ k ∈ fs.toList.map keyX) ∧
    fs.size < scanBound ∧ t.fits fs.size = true ∧ fs.size = n ∧ Ris t.place.toList ∧ (w.params.followText "set-order" = true ∨ t.led = true)

section
variable {P : Program} {w : World} {h h' : Heap} {a : Addr} {S : Str → Bool} {n : Nat}

theorem SetX.at (RR : SetX w h a S n) (k : ∀ o, h.get? a = some o → h'.get? a = some o) : SetX w h' a S n := by
  obtain ⟨o, fs, ep, t, qo, r⟩ := RR
  exact ⟨o, fs, ep, t, k o qo, r⟩
theorem SetX.lt (RR : SetX w h a S n) : a < h.objs.size := by
  obtain ⟨o, fs, ep, t, qo, r⟩ := RR
  exact Heap.lt_size qo
theorem SetX.congr {S' : Str → Bool} (RR : SetX w h a S n) (e : ∀ k, S' k = S k) : SetX w h a S' n := by
  have q : S' = S := funext e
  rw [q]; exact RR
theorem goodX_elems {l : List (Int × Value)} (g : ∀ e ∈ l, GoodX w e) : ElemsOf (PySem.strKind P w) l := fun e he => by
  obtain ⟨k, tk, q1h, q2h⟩ := g e he
  exact ⟨⟨k, by rw [q1h]; exact strKind_is P w k tk, q2h⟩, by rw [q1h] <;> rfl⟩
theorem goodX_is {e : Int × Value} (g : GoodX w e) (k : Str) : (PySem.strKind P w).is k e.2 = true ↔ keyX e = k := by
  obtain ⟨k0, tk, q1h, _⟩ := g
  unfold keyX
  rw [q1h]
  constructor
  · intro z
    obtain ⟨t, e⟩ := Value.isStrOf_shape (show Value.isStrOf k (.str k0 tk) = true from z)
    injection e
  · rintro rfl
    exact strKind_is P w _ tk
theorem goodX_mem {l : List (Int × Value)} (g : ∀ e ∈ l, GoodX w e) (k : Str) : k ∈ l.map keyX ↔ ∃ e ∈ l, (PySem.strKind P w).is k e.2 = true := by
  rw [List.mem_map]
  constructor
  · rintro ⟨e, he, q⟩
    exact ⟨e, he, (goodX_is (g e he) k).2 q⟩
  · rintro ⟨e, he, q⟩
    exact ⟨e, he, (goodX_is (g e he) k).1 q⟩
theorem SetX.setOf (RR : SetX w h a S n) : h.SetOf (PySem.strKind P w) a S n := by
  obtain ⟨o, fs, ep, t, qo, hx, qd, g, nd, qm, qb, qf, qn, _⟩ := RR
  exact ⟨o, fs, ep, t, qo, hx, qd, goodX_elems g, fun k => (qm k).trans (goodX_mem g k), qb, qf, qn⟩
end

section
variable {P : Program} {w : World} {A : Around} {E : Value → Shared → Prop} {s : Shared} {a : Addr} {S : Str → Bool} {n : Nat}

/-! ### add -/
theorem storeX_at {h : Heap} {a : Addr} {o : Obj} {fs es' : Array (Int × Value)} {ep : Nat} {t t' : SetTable} (qo : h.get? a = some o) (qd : o.data = .set fs ep t) :
    (h.update a (Obj.putSet es' t')).get? a = some { o with data := .set es' (ep + 1) t' } := by
  have q := Heap.get?_update_self (Obj.putSet es' t') qo (by rw [putSet_of es' t' qd]; rfl)
  rw [putSet_of es' t' qd] at q
  exact q

theorem setX_add_tail {g : Bool → Sem Unit} (kg : ∀ (b : Bool) (sA : Shared) (Q' : Unit → Shared → Prop), Q' () sA → wpAny (model P w) A (g b) Q' E sA)
    {o : Obj} {fs : Array (Int × Value)} {ep : Nat} {t : SetTable} (qo : s.heap.get? a = some o) (qx : o.ExactSet) (qd : o.data = .set fs ep t)
    {f1s : Array (Int × Value)} {u2 : SetTable} {S' : Str → Bool} (gg1 : ∀ e ∈ f1s.toList, GoodX w e) (ndp : (f1s.toList.map keyX).Nodup) (mm1 : ∀ k, S' k = true ↔ k ∈ f1s.toList.map keyX)
    (qb1 : f1s.size < scanBound) (qf2 : u2.fits f1s.size = true) (qr : Ris u2.place.toList) (ql : w.params.followText "set-order" = true ∨ u2.led = true) {wasDummy : Bool} {RR : Option Bool → Shared → Prop}
    (kR : ∀ h', Heap.SameBut a s.heap h' → SetX w h' a S' f1s.size → RR (some true) { s with heap := h' }) :
    wpAny (model P w) A (do
        storeSet a f1s u2
        if (!wasDummy && u2.tooFull) = true then do
            g (relayAll u2 f1s (SetTable.grown f1s.size)).2.2
            storeSet a (relayAll u2 f1s (SetTable.grown f1s.size)).1 (relayAll u2 f1s (SetTable.grown f1s.size)).2.1
            pure (some true)
          else pure (some true)) RR E s := by
  refine wpAny_bind (wpAny_storeSet_of qo qd ?_ (fits_of_scanBound qb1))
  have qo1 := storeX_at (es' := f1s) (t' := u2) qo qd
  have sbu1 := Heap.SameBut.update s.heap a (Obj.putSet f1s u2)
  split
  · have prm := relayAll_perm u2 f1s (SetTable.grown f1s.size)
    have qf3 := relayAll_fits u2 f1s (SetTable.grown f1s.size)
    have qr3 := relayAll_ris u2 f1s (SetTable.grown f1s.size)
    have ql3 := relayAll_led u2 f1s (SetTable.grown f1s.size)
    generalize relayAll u2 f1s (SetTable.grown f1s.size) = Z at prm qf3 qr3 ql3 ⊢
    obtain ⟨f2s, u3, gave⟩ := Z
    dsimp only at prm qf3 qr3 ql3 ⊢
    have szq : f2s.size = f1s.size := by rw [← Array.length_toList, prm.length_eq, Array.length_toList]
    have qb2 : f2s.size < scanBound := by rw [szq]; exact qb1
    refine wpAny_bind (kg _ _ _ ?_)
    refine wpAny_bind (wpAny_storeSet_of qo1 rfl ?_ (fits_of_scanBound qb2))
    have qo2 := storeX_at (es' := f2s) (t' := u3) qo1 rfl
    refine wpAny_pure (kR _ (sbu1.trans (Heap.SameBut.update _ a _)) ?_)
    exact ⟨_, f2s, _, u3, qo2, qx, rfl, fun e he => gg1 e (prm.mem_iff.mp he), (prm.map keyX).nodup_iff.mpr ndp, fun k => (mm1 k).trans (prm.map keyX).mem_iff.symm, qb2, qf3, szq, qr3,
      ql.imp id fun z => by rw [ql3]; exact z⟩
  · exact wpAny_pure (kR _ sbu1 ⟨_, f1s, _, u2, qo1, qx, rfl, gg1, ndp, mm1, qb1, qf2, rfl, qr, ql⟩)

theorem setX_add_hashed {k : Str} {tk : Tok} {Q : Bool → Shared → Prop} (RR : SetX w s.heap a S n) (roomy : n + 1 < scanBound)
    (kQ : ∀ h', Heap.SameBut a s.heap h' → SetX w h' a (fun j => S j || decide (j = k)) (if S k = true then n else n + 1) → Q (!S k) { s with heap := h' }) :
    wpAny (model P w) A (setAddHashed a (.str k tk) ((PySem.strKind P w).hash k)) Q E s := by
  obtain ⟨o, fs, ep, t, qo, qx, qd, g, nd, qm, qb, qf, qn, qr, ql⟩ := RR
  have keyq : (PySem.strKind P w).is k (.str k tk) = true := strKind_is P w k tk
  have scq : (Value.str k tk).scannable = true := rfl
  have elq : ElemsOf (PySem.strKind P w) fs.toList := goodX_elems g
  unfold setAddHashed setAddHashedIn
  refine wpAny_holding (wpAny_bind (wpAny_setState_of qo qd qf ?_))
  dsimp only
  rw [byScan_of scq qb elq]
  simp only [↓reduceIte]
  unfold setAddByScan
  refine wpAny_bind ?_
  refine wpAny_bind (wpAny_rule ?_)
  refine wpAny_bind (wpAny_setScan_of keyq qo qd qf elq ?_)
  cases fiq : List.findIdx? (fun e => (PySem.strKind P w).is k e.2) fs.toList with
  | some j =>
    dsimp only
    obtain ⟨jq, pjq, _⟩ := List.findIdx?_eq_some_iff_getElem.mp fiq
    have sk0 : S k = true := (qm k).2 ((goodX_mem (P := P) (w := w) g k).2 ⟨fs.toList[j], List.getElem_mem jq, pjq⟩)
    refine wpAny_pure (wpAny_pure ?_)
    have q := kQ s.heap (Heap.SameBut.refl a s.heap) ⟨o, fs, ep, t, qo, qx, qd, g, nd, fun i => by
      rw [Bool.or_eq_true, decide_eq_true_eq, ← qm i]
      exact ⟨fun z => z.elim id (fun e => e ▸ sk0), .inl⟩, qb, qf, by rw [if_pos sk0]; exact qn, qr, ql⟩
    rw [sk0] at q
    exact q
  | none =>
    dsimp only
    have nkx : k ∉ fs.toList.map keyX := fun z => by
      obtain ⟨e, he, q⟩ := (goodX_mem (P := P) (w := w) g k).1 z
      have c := List.findIdx?_eq_none_iff.mp fiq e he
      rw [q] at c
      cases c
    have sk0 : S k = false := by
      cases q : S k with
      | false => rfl
      | true => exact absurd ((qm k).1 q) nkx
    have gway : ∀ (b : Bool) {sA : Shared} {Q' : Unit → Shared → Prop}, Q' () sA → wpAny (model P w) A (match b with | true => rule "set.scan.the-table-gave-way" | false => pure ()) Q' E sA :=
      fun b sA Q' q => by cases b <;> first | exact wpAny_pure q | exact wpAny_rule q
    have prm := layNew_perm t fs ((PySem.strKind P w).hash k) (.str k tk)
    have qf1 := layNew_fits t fs ((PySem.strKind P w).hash k) (.str k tk)
    have qr1 := layNew_ris t fs ((PySem.strKind P w).hash k) (.str k tk) qr
    have ql1 := layNew_led t fs ((PySem.strKind P w).hash k) (.str k tk)
    generalize layNew t fs ((PySem.strKind P w).hash k) (.str k tk) = Z at prm qf1 qr1 ql1 ⊢
    obtain ⟨f1s, t1, wasDummy, gave⟩ := Z
    dsimp only at prm qf1 qr1 ql1 ⊢
    rw [Array.toList_push] at prm
    have pcs : f1s.toList.Perm (((PySem.strKind P w).hash k, Value.str k tk) :: fs.toList) := prm.trans (List.perm_append_singleton _ _)
    have pks : (f1s.toList.map keyX).Perm (k :: fs.toList.map keyX) := pcs.map keyX
    have gg1 : ∀ e ∈ f1s.toList, GoodX w e := fun e he => by
      rcases List.mem_cons.mp (pcs.mem_iff.mp he) with z | z
      · rw [z]; exact ⟨k, tk, rfl, rfl⟩
      · exact g e z
    have ndp : (f1s.toList.map keyX).Nodup := pks.nodup_iff.mpr (List.nodup_cons.mpr ⟨nkx, nd⟩)
    have mm1 : ∀ i, (S i || decide (i = k)) = true ↔ i ∈ f1s.toList.map keyX := fun i => by
      rw [Bool.or_eq_true, decide_eq_true_eq, qm i, pks.mem_iff, List.mem_cons]
      exact Or.comm
    have szq : f1s.size = n + 1 := by rw [← Array.length_toList, pcs.length_eq, List.length_cons, Array.length_toList, qn]
    have qb1 : f1s.size < scanBound := by rw [szq]; exact roomy
    have ledq : w.params.followText "set-order" = true ∨ t1.led = true := ql.imp id fun z => by rw [ql1]; exact z
    have fini : ∀ h', Heap.SameBut a s.heap h' → SetX w h' a (fun j => S j || decide (j = k)) f1s.size → Q true { s with heap := h' } := fun h' sbu r => by
      have q := kQ h' sbu
      rw [sk0] at q
      rw [szq] at r
      exact q r
    refine wpAny_bind (gway _ ?_)
    split
    · refine wpAny_bind ?_
      rw [hashByValue_scannable 8 scq]
      refine wpAny_pure ?_
      refine setX_add_tail ?_ qo qx qd gg1 ndp mm1 qb1 ?_ ?_ ?_ ?_
      · intro b sA Q' q; cases b <;> first | exact wpAny_pure q | exact wpAny_rule q
      · first | (split <;> first | exact qf1 | exact SetTable.fits_plain_off qf1) | exact qf1
      · first | (split <;> exact qr1) | exact qr1
      · first | (split <;> exact ledq) | exact ledq
      · intro h' sbu r; dsimp only; exact wpAny_pure (fini h' sbu r)
    · refine wpAny_bind (wpAny_pure ?_)
      simp only [↓reduceIte]
      refine setX_add_tail ?_ qo qx qd gg1 ndp mm1 qb1 qf1 qr1 ledq ?_
      · intro b sA Q' q; cases b <;> first | exact wpAny_pure q | exact wpAny_rule q
      · intro h' sbu r; dsimp only; exact wpAny_pure (fini h' sbu r)

end
theorem setX_new_at {w : World} {h : Heap} {a : Addr} {xs : List Str} (qo : h.get? a = some { cls := .type "set", dict := none, data := .set #[] 0 (.fresh 0 0 (!w.params.followText "set-order")) }) : SetX w h a (fun j => decide (j ∈ xs.take 0)) 0 :=
  ⟨_, #[], 0, _, qo, ⟨rfl, rfl, rfl⟩, rfl, (fun e he => by simp at he), (by simp), (fun k => by simp), (by decide), (by rfl), rfl, List.Pairwise.nil, by
    show _ ∨ (!w.params.followText "set-order") = true
    cases w.params.followText "set-order"
    · exact .inr rfl
    · exact .inl rfl⟩
section
variable {P : Program} {w : World} {A : Around} {E : Value → Shared → Prop} {s : Shared}
theorem set_update_ints {I : Addr} {fp wr : List Addr} {G : Array GenState → Array GenState → Prop} {n : Nat} {Pv : Nat → Value → Prop} {St : Nat → Shared → Prop} {RR : Result → Shared → Prop}
    (Wk : WalksS P w A.in1 I fp wr G n Pv St) (S : Addr) (nSf : S ∉ fp) (xs : List Str) (qn : n = xs.length) (qb : xs.length + 1 < scanBound) (vals : ∀ i v, Pv i v → ∃ k t, xs[i]? = some k ∧ v = .str k t) :
    ∀ (k i : Nat) (s : Shared), n - i = k → i ≤ n → St i s → (∃ c, c ≤ i ∧ SetX w s.heap S (fun j => decide (j ∈ xs.take i)) c) →
      (∀ s' c, Moved (S :: wr) G s s' → c ≤ n → SetX w s'.heap S (fun j => decide (j ∈ xs)) c → RR (.ok (.ret .none)) s') →
      codeAny (model P w) A (.builtin "set.update.loop" ⟨[.ref S, .ref I], []⟩) RR s := by
  have nSw : S ∉ wr := fun h => nSf (Wk.sub _ h)
  have qsub : ∀ b ∈ wr, b ∈ S :: wr := fun b qb => List.mem_cons_of_mem _ qb
  intro k
  induction k with
  | zero =>
    intro i s ek ile sst ⟨c, ec, oS⟩ kR
    have hin : i = n := by omega
    subst hin
    refine codeAny_builtin F.entry_set_update_loop ?_
    rw [Around.under_plainId F.plain_set_update_loop _]
    show wpAny _ A.in1 (pyNext (.ref I) >>= _) _ _ s
    refine wpAny_bind (Wk.done s _ _ sst fun s' qm => ?_)
    show wpAny _ A.in1 (ret Value.none) _ _ s'
    have e : xs.take i = xs := List.take_of_length_le (by omega)
    rw [e] at oS
    exact wpAny_pure (kR s' c (qm.mono qsub) ec (oS.at fun o e => qm.heap S o nSw e))
  | succ k ih =>
    intro i s ek ile sst ⟨c, ec, oS⟩ kR
    have ilt : i < n := by omega
    refine codeAny_builtin F.entry_set_update_loop ?_
    rw [Around.under_plainId F.plain_set_update_loop _]
    show wpAny _ A.in1 (pyNext (.ref I) >>= _) _ _ s
    refine wpAny_bind (Wk.item i s _ _ ilt sst fun v s' pP sst1 qm => ?_)
    obtain ⟨z, t, hz, rfl⟩ := vals i v pP
    have oS1 : SetX w s'.heap S (fun j => decide (j ∈ xs.take i)) c := oS.at fun o e => qm.heap S o nSw e
    show wpAny _ A.in1 (holding [Value.str z t] (setAdd S (.str z t)) >>= _) _ _ s'
    refine wpAny_bind (wpAny_holding ?_)
    unfold setAdd
    refine wpAny_holding ?_
    refine wpAny_bind ((PySem.strKind P w).pyHash (k := z) (strKind_is _ _ _ _) ?_)
    refine setX_add_hashed (s := { s' with toks := s'.toks + 1 }) oS1 (by omega) fun h' sbk oS2 => ?_
    have oS3 : SetX w h' S (fun j => decide (j ∈ xs.take (i + 1))) (if decide (z ∈ xs.take i) = true then c else c + 1) := oS2.congr fun j => by
      rw [List.take_add_one, hz]
      simp [List.mem_append]
    have ec3 : (if decide (z ∈ xs.take i) = true then c else c + 1) ≤ i + 1 := by
      split <;> omega
    refine wpAny_pure ⟨plainId_quiet F.plain_set_update_loop _, ih (i + 1) _ (by omega) ilt (Wk.frame _ s' _ _ sst1 (Nat.le_succ _) fun b qb o e => ?_) ⟨_, ec3, oS3⟩ fun s'' c2 hm'' hc'' hS'' => ?_⟩
    · rw [sbk.2 b (fun h : b = S => nSf (by rw [← h]; exact qb))]; exact e
    · refine kR s'' c2 (Moved.trans Wk.gtrans ((qm.mono qsub).then_heap (Nat.le_succ _) fun b o qb e => ?_) hm'') hc'' hS''
      rw [sbk.2 b (fun h : b = S => qb (by rw [h]; exact List.mem_cons_self))]; exact e

set_option maxRecDepth 100000 in
set_option maxHeartbeats 3200000 in
theorem call_set_txts {l : Addr} {its : Array Value} (xs : List Str) {Q : Value → Shared → Prop} (noH : A.handled = none) (ql : s.heap.IsList l its) (areS : StrsAre its.toList xs) (qb : xs.length + 1 < scanBound)
    (h : ∀ (h' : Heap) (tk c : Nat), SetX w h' s.heap.objs.size (fun j => decide (j ∈ xs)) c → c ≤ xs.length → (∀ b o, s.heap.get? b = some o → h'.get? b = some o) → Q (.ref s.heap.objs.size) { s with heap := h', toks := tk }) :
    wpAny (model P w) A (call (.type "set") [.ref l]) Q E s := by
  have szi : its.size = xs.length := by
    have q := StrsAre.length areS
    rw [Array.length_toList] at q
    exact q
  obtain ⟨c, tl, qmro⟩ := F.called_set.mro
  have qmade := F.called_set.made
  have qsub := F.called_set.sub
  refine wpAny_call (codeAny_of_tree ?_)
  show wpAny _ _ (callAny (.type "set") _) _ _ _
  refine wpAny_pure ⟨Code.quiet_builtin _ (by decide +kernel), codeAny_builtin F.entry_type_call ?_⟩
  rw [Around.under_plain (weight_type_call_type "set" [.ref l] []) rfl]
  have q1h := F.called_set.notType
  have q2h := F.called_set.canCreate
  have qct := F.typeCall_set_1 (.ref l)
  repeat (any_goals (first | assumption | wp_step))

  refine codeAny_mono (code_set_led1 (.ref l) (E := E) (Q₁ := fun obj sA => obj = .ref s.heap.objs.size ∧ sA = { s with heap := s.heap.push { cls := .type "set", dict := none, data := .set #[] 0 (.fresh 0 0 (!w.params.followText "set-order")) } }) ⟨rfl, rfl⟩) fun r sA qr => ?_
  cases r with
  | error e => exact qr
  | ok fl =>
    cases fl with
    | ret obj =>
      obtain ⟨rfl, rfl⟩ := qr
      have oS : (s.heap.push { cls := .type "set", dict := none, data := .set #[] 0 (.fresh 0 0 (!w.params.followText "set-order")) }).get? s.heap.objs.size = some { cls := .type "set", dict := none, data := .set #[] 0 (.fresh 0 0 (!w.params.followText "set-order")) } := Heap.get?_push_size _ rfl
      have oT : Shared.TypeIs { s with heap := s.heap.push { cls := .type "set", dict := none, data := .set #[] 0 (.fresh 0 0 (!w.params.followText "set-order")) } } (.ref s.heap.objs.size) "set" := ⟨_, oS, rfl⟩
      have qli := F.called_set.init.lookup
      have qbi := F.called_set.init.bind (.ref s.heap.objs.size)
      repeat (any_goals (first | assumption | wp_step))

      refine codeAny_mono (codeAny_call_builtin (R := wants (fun r s2 => r = .none ∧ ∃ h' tk c, s2 = { s with heap := h', toks := tk } ∧ SetX w h' s.heap.objs.size (fun j => decide (j ∈ xs)) c ∧ c ≤ xs.length ∧
          (∀ b o, s.heap.get? b = some o → h'.get? b = some o)) E) F.called_set.init.plain F.entry_set_init (check_set_init_1 oT ?_)) fun r2 s2 rr2 => ?_
      · obtain ⟨obj0, gol, gcl, nl, gdl⟩ := ql
        obtain ⟨cls0, dict0, data0, slots0⟩ := obj0
        simp only at gcl gdl
        subst gcl; subst gdl
        have gol1 : (s.heap.push { cls := .type "set", dict := none, data := .set #[] 0 (.fresh 0 0 (!w.params.followText "set-order")) }).get? l = some { cls := .type "list", dict := dict0, data := .seq its nl, slots := slots0 } := Heap.get?_push_of_some _ gol
        have qsls := F.sub_list_set
        have qslf := F.sub_list_frozenset
        have nne : (Value.type "list" == Value.type "dict") = false := by decide
        have ql1 : (s.heap.push { cls := .type "set", dict := none, data := .set #[] 0 (.fresh 0 0 (!w.params.followText "set-order")) }).IsList l its := ⟨_, gol1, rfl, nl, rfl⟩
        unfold Builtin.«set.__init__» noKeywords Builtin.Frozenset.updateFrom
        generalize ePI : pyIter = PIt
        wp_walk
        subst ePI

        refine wpAny_pyIter_list ql1 ?_
        refine wpAny_bind (wpAny_runValue ?_)
        have lS : l < s.heap.objs.size := Heap.lt_size gol
        have noH3 : A.in1.in1.in1.handled = none := by simp [noH]
        have szp : (s.heap.push { cls := .type "set", dict := none, data := .set #[] 0 (.fresh 0 0 (!w.params.followText "set-order")) }).objs.size = s.heap.objs.size + 1 := Heap.size_push ..
        have neIt : l ≠ (s.heap.push { cls := .type "set", dict := none, data := .set #[] 0 (.fresh 0 0 (!w.params.followText "set-order")) }).objs.size := by
          rw [Heap.size_push]; exact Nat.ne_of_lt (Nat.lt_succ_of_lt lS)
        have nSf : s.heap.objs.size ∉ [(s.heap.push { cls := .type "set", dict := none, data := .set #[] 0 (.fresh 0 0 (!w.params.followText "set-order")) }).objs.size, l] := by
          rw [Heap.size_push]; simp only [List.mem_cons, List.mem_singleton, List.not_mem_nil, or_false, not_or]
          exact ⟨Nat.ne_of_lt (Nat.lt_succ_self _), Nat.ne_of_gt lS⟩
        have vals : ∀ (i : Nat) (v : Value), its[i]? = some v → ∃ k t, xs[i]? = some k ∧ v = .str k t := fun i v hv => by
          have ile : i < xs.length := by rw [← szi]; exact (Array.getElem?_eq_some_iff.mp hv).1
          obtain ⟨t, e⟩ := SS.strs_at areS i v (by rw [Array.getElem?_toList]; exact hv)
          refine ⟨xs[i], t, List.getElem?_eq_getElem ile, ?_⟩
          rw [e, List.getD_eq_getElem?_getD, List.getElem?_eq_getElem ile] <;> rfl
        refine set_update_ints ((Walks.list noH3 _ l neIt its).toS) s.heap.objs.size
          nSf xs szi qb vals (its.size - 0) 0 _ (by omega) (Nat.zero_le _)
          ⟨⟨_, Heap.get?_push_size _ rfl, rfl, rfl⟩, (ql1.push _)⟩ ?hS0 ?kR
        case hS0 =>
          have gets : ((s.heap.push { cls := .type "set", dict := none, data := .set #[] 0 (.fresh 0 0 (!w.params.followText "set-order")) }).push { cls := .type "list_iterator", data := .fields #[.ref l, .int 0 0] }).get? s.heap.objs.size
              = some { cls := .type "set", dict := none, data := .set #[] 0 (.fresh 0 0 (!w.params.followText "set-order")) } := Heap.get?_push_of_some _ oS
          exact ⟨0, Nat.le_refl 0, setX_new_at gets⟩
        case kR =>
          intro s' c' qm hc' oS1
          obtain ⟨h', g2, d', tk', os'⟩ := s'
          have egn : g2 = s.gens := qm.gens
          have edr : d' = s.drawn := qm.drawn
          have eos : os' = s.os := qm.os
          subst egn; subst edr; subst eos
          show wpAny _ _ _ _ _ _
          refine wpAny_pure ?_
          show wpAny _ _ (ret Value.none) _ _ _
          rw [szi] at hc'
          refine wpAny_pure ⟨rfl, h', tk', c', rfl, oS1, hc', fun b o e => ?_⟩
          have b0 : b < s.heap.objs.size := Heap.lt_size e
          have qb1 : b ≠ s.heap.objs.size := Nat.ne_of_lt b0
          have qb2 : b ≠ (s.heap.push { cls := .type "set", dict := none, data := .set #[] 0 (.fresh 0 0 (!w.params.followText "set-order")) }).objs.size := by
            rw [Heap.size_push]; exact Nat.ne_of_lt (Nat.lt_succ_of_lt b0)
          exact qm.heap b o (by simp only [List.mem_cons, List.mem_singleton, List.not_mem_nil, or_false, not_or]; exact ⟨qb1, qb2⟩) (Heap.get?_push_of_some _ (Heap.get?_push_of_some _ e))

      · cases r2 with
        | error e => exact rr2
        | ok fl2 =>
          cases fl2 with
          | ret r =>
            obtain ⟨rfl, h', tk, c', rfl, oS1, hc', ek⟩ := rr2
            repeat (any_goals (first | assumption | wp_step))
            exact h _ _ _ oS1 hc' ek
          | _ => exact rr2.elim
    | _ => exact qr.elim

end

end EvT
namespace EvT
open PySem PySem.Spec PyProof.Rows L2
section
variable {P : Program} {w : World} {A : Around} {E : Value → Shared → Prop} {s : Shared} {a : Addr}
theorem strs_of_good {fs : List (Int × Value)} (g : ∀ e ∈ fs, GoodX w e) : ∀ (vs : List Value), (∀ v ∈ vs, ∃ e ∈ fs, e.2 = v) → ∃ ss : List Str, StrsAre vs ss ∧ ss = vs.map fun v => keyX (0, v)
  | [], _ => ⟨[], .nil, rfl⟩
  | v :: vs, h => by
    obtain ⟨ss, h1, h2⟩ := strs_of_good g vs fun u hu => h u (by simp [hu])
    obtain ⟨e, he, ev⟩ := h v (by simp)
    obtain ⟨k, tk, e1, _⟩ := g e he
    rw [ev] at e1
    subst e1
    exact ⟨k :: ss, .cons k tk h1, by rw [h2]; rfl⟩
/-- sorted(a set of texts) -/
theorem sorted_txts {S : Str → Bool} {n : Nat} {Q : Value → Shared → Prop} (RR : SetX w s.heap a S n) (noH : A.handled = none) (h64 : n < 64)
    (kQ : ∀ (s' : Shared) (p : Addr) (out : Array Value) (c : Nat) (ss : List Str), (∀ b o, s.heap.get? b = some o → s'.heap.get? b = some o) → s'.gens = s.gens → s'.os = s.os → s.heap.objs.size ≤ p →
      s'.heap.get? p = some (seqObj "list" out c) → StrsAre out.toList ss → sortedS ss = true → ss.Nodup → (∀ k, k ∈ ss ↔ S k = true) → ss.length = n → Q (.ref p) s') :
    wpAny (model P w) A (call (.builtin "sorted") [.ref a]) Q E s := by
  obtain ⟨o, fs, ep, t, qo, qx, qd, g, nd, qm, qb, qf, qn, qr, ql⟩ := RR
  refine Calls.call_function_entry kind_sorted plain_sorted entry_sorted (args_sorted1 _) ?_
  unfold Builtin.«sorted»
  refine wpAny_bind (m := checkCount "sorted" 1 1 _) (wpAny_pure ?_)
  refine wpAny_bind (collect_set (A := A.in1) noH ⟨o, qo, qx.1, qd⟩ qf qb qr ql fun s1 vs k1 szq g1 o1 prm => ?_)
  have vlen : vs.length = n := by rw [prm.length_eq, List.length_map, Array.length_toList]; exact qn
  obtain ⟨ss, areS, ess⟩ := strs_of_good (w := w) g vs fun v hv => by
    obtain ⟨e, he, q⟩ := List.mem_map.mp (prm.mem_iff.mp hv)
    exact ⟨e, he, q⟩
  have pk : ss.Perm (fs.toList.map keyX) := by
    rw [ess]
    have q := prm.map fun v => keyX (0, v)
    rw [List.map_map] at q
    exact q
  refine wpAny_bind (wpAny_newList ?_ (by rw [vlen, sizeLine_eq]; omega))
  have lst0 : (s1.heap.push (seqObj "list" vs.toArray 0)).get? s1.heap.objs.size = some (seqObj "list" vs.toArray 0) := Heap.get?_push_size _ rfl
  refine wpAny_bind (wpAny_holding (wpAny_call_entry slot_list_sort ⟨_, lst0, rfl⟩ entry_list_sort (list_sort_treeK strKind_oneLt lst0 areS.keysOf (fun v₁ v₂ rest e => keyKind_strs (by rw [← e]; exact areS)) (by rw [vlen]; exact h64) fun st' hp hs => ⟨_, rfl, ?_⟩) (args_list_sort _)))
  obtain ⟨ss', a1, a2, a3⟩ := sorted_out_str areS hp hs
  obtain ⟨c, hc⟩ := sortedHeap_at (vs := vs) (out := (arrOf st').map (·.2)) lst0
  have pn : ss'.Perm (fs.toList.map keyX) := a2.trans pk
  refine wpAny_pure ⟨_, rfl, kQ _ s1.heap.objs.size _ c ss' (fun b u e => ?_) g1 o1 szq hc a1 a3 (pn.nodup_iff.mpr nd) (fun k => by rw [pn.mem_iff, ← qm k]) ?_⟩
  · have q := k1 b u e
    have ilt := Heap.lt_size q
    show (sortedHeap (s1.heap.push (seqObj "list" vs.toArray 0)) s1.heap.objs.size vs _).get? b = some u
    rw [sortedHeap_old (Nat.ne_of_lt ilt) (by rw [size_push']; exact Nat.lt_succ_of_lt ilt)]
    exact Heap.get?_push_of_some _ q
  · rw [pn.length_eq, List.length_map, Array.length_toList]; exact qn
end
end EvT
/-! list(zip(xs, ys)): the pairs as new tuples -/
namespace EvT
open PySem PySem.Spec PyProof.Rows L2
/-- the zip over two lists, i pairs given out -/
def ZS (z TI TO i1 i2 l1 l2 S : Nat) (xs ys : Array Value) (i : Nat) (h : Heap) : Prop :=
  PySem.IsPair h TI (.ref i1) (.ref i2) ∧ h.IsListIter i1 l1 i ∧ h.IsListIter i2 l2 i ∧ h.IsList l1 xs ∧ h.IsList l2 ys ∧
    ((PySem.IsZip h z TI TO .none ∧ ∃ a b, PySem.IsPair h TO a b) ∨ ∃ T f oT, PySem.IsZipHeld h z TI TO T f ∧ h.get? T = some oT ∧ T ≠ z ∧ T ≠ i1 ∧ T ≠ i2 ∧ T ≠ S)
theorem ZS.keeps {z TI TO i1 i2 l1 l2 S : Nat} {xs ys : Array Value} {i : Nat} {h h' : Heap} (x : ZS z TI TO i1 i2 l1 l2 S xs ys i h) (nS : S ≠ z ∧ S ≠ TI ∧ S ≠ TO ∧ S ≠ i1 ∧ S ≠ i2 ∧ S ≠ l1 ∧ S ≠ l2) (k : ∀ b o, b ≠ S → h.get? b = some o → h'.get? b = some o) : ZS z TI TO i1 i2 l1 l2 S xs ys i h' := by
  obtain ⟨n1, n2, n3, n4, n5, n6, n7⟩ := nS
  obtain ⟨x1, x2, x3, x4, x5, x6⟩ := x
  refine ⟨k _ _ n2.symm x1, x2.at fun o e => k _ o n4.symm e, x3.at fun o e => k _ o n5.symm e, x4.at fun o e => k _ o n6.symm e, x5.at fun o e => k _ o n7.symm e, ?_⟩
  rcases x6 with ⟨y, a, b, y2⟩ | ⟨T, f, oT, y, y2, y3, y4, y5, y6⟩
  · exact .inl ⟨k _ _ n1.symm y, a, b, k _ _ n3.symm y2⟩
  · exact .inr ⟨T, f, oT, k _ _ n1.symm y, k _ _ y6 y2, y3, y4, y5, y6⟩
/-- the pairs that have come -/
def Got (m : Nat) (xs ys : Array Value) (h : Heap) (acc : Array Value) (i : Nat) : Prop :=
  ∃ Ts : List Nat, acc.toList = Ts.map Value.ref ∧ Ts.length = i ∧ Ts.Nodup ∧ (∀ T ∈ Ts, m ≤ T ∧ T < h.objs.size) ∧ ∀ (j : Nat) (T : Nat), Ts[j]? = some T → ∃ x y, xs[j]? = some x ∧ ys[j]? = some y ∧ PySem.IsPair h T x y
theorem Got.keeps {m : Nat} {xs ys : Array Value} {h h' : Heap} {acc : Array Value} {i : Nat} (g : Got m xs ys h acc i) (k : ∀ b o, m ≤ b → h.get? b = some o → h'.get? b = some o) : Got m xs ys h' acc i := by
  obtain ⟨Ts, g1, g2, g3, g4, g5⟩ := g
  have key : ∀ (j : Nat) (T : Nat), Ts[j]? = some T → ∃ x y, xs[j]? = some x ∧ ys[j]? = some y ∧ PySem.IsPair h' T x y := fun j T e => by
    obtain ⟨x, y, e1, e2, e3⟩ := g5 j T e
    exact ⟨x, y, e1, e2, k _ _ (g4 T (List.mem_of_getElem? e)).1 e3⟩
  refine ⟨Ts, g1, g2, g3, fun T hT => ⟨(g4 T hT).1, ?_⟩, key⟩
  obtain ⟨j, e⟩ := List.getElem?_of_mem hT
  obtain ⟨x, y, _, _, e3⟩ := key j T e
  exact Heap.lt_size e3
theorem Got.push {m : Nat} {xs ys : Array Value} {h h' : Heap} {acc : Array Value} {i : Nat} {x y : Value} (g : Got m xs ys h acc i) (hm : m ≤ h.objs.size) (hs : h'.objs.size = h.objs.size + 1) (k : ∀ b o, m ≤ b → h.get? b = some o → h'.get? b = some o)
    (hx : xs[i]? = some x) (hy : ys[i]? = some y) (hp : PySem.IsPair h' h.objs.size x y) : Got m xs ys h' (acc.push (.ref h.objs.size)) (i + 1) := by
  obtain ⟨Ts, g1, g2, g3, g4, g5⟩ := g.keeps k
  obtain ⟨Ts0, f1, f2, f3, f4, f5⟩ := g
  have eT : Ts = Ts0 := by
    have : Ts.map Value.ref = Ts0.map Value.ref := by rw [← g1, ← f1]
    exact (List.map_inj_right (fun a b e => by cases e; rfl)).mp this
  subst eT
  refine ⟨Ts ++ [h.objs.size], by simp [g1], by simp [g2], ?_, fun T hT => ?_, fun j T e => ?_⟩
  · rw [List.nodup_append]
    refine ⟨g3, by simp, fun a ha b hb e => ?_⟩
    have : b = h.objs.size := by simpa using hb
    have := (f4 a ha).2
    omega
  · rcases List.mem_append.mp hT with hT | hT
    · exact g4 T hT
    · have : T = h.objs.size := by simpa using hT
      subst this
      exact ⟨hm, by omega⟩
  · by_cases hj : j < Ts.length
    · rw [List.getElem?_append_left hj] at e
      exact g5 j T e
    · rw [List.getElem?_append_right (by omega)] at e
      have e0 : j - Ts.length = 0 := by
        cases q : j - Ts.length with
        | zero => rfl
        | succ n => rw [q] at e; simp at e
      rw [e0] at e
      have : T = h.objs.size := by simpa using e.symm
      subst this
      have ej : j = i := by omega
      subst ej
      exact ⟨x, y, hx, hy, hp⟩
section
variable {prog : Program} {w : World} {A : Around} {R : Result → Shared → Prop} {z TI TO i1 i2 l1 l2 S : Nat} {xs ys : Array Value} {m : Nat} {res : Value}
theorem zl_loop (noH : A.in1.handled = none) (AP : ZipApart z TI TO i1 i2 l1 l2) (nS : S ≠ z ∧ S ≠ TI ∧ S ≠ TO ∧ S ≠ i1 ∧ S ≠ i2 ∧ S ≠ l1 ∧ S ≠ l2) (bd : z < m ∧ TO < m ∧ i1 < m ∧ i2 < m ∧ S < m) (cap : xs.size ≤ 1000) :
    ∀ (k i : Nat) (s : Shared) (acc : Array Value) (c : Nat), min xs.size ys.size - i = k → i ≤ min xs.size ys.size → ZS z TI TO i1 i2 l1 l2 S xs ys i s.heap →
      s.heap.get? S = some { cls := .type "list", dict := none, data := .seq acc c, slots := #[] } → Got m xs ys s.heap acc i → m ≤ s.heap.objs.size →
      (∀ h' acc' c', (∀ b o, b ≠ S → b ≠ z → b ≠ TO → b ≠ i1 → b ≠ i2 → s.heap.get? b = some o → h'.get? b = some o) → h'.get? S = some { cls := .type "list", dict := none, data := .seq acc' c', slots := #[] } →
        Got m xs ys h' acc' (min xs.size ys.size) → R (.ok (.ret res)) { s with heap := h' }) →
      codeAny (model prog w) A (.builtin "list.extend.loop" ⟨[.ref S, .ref z, res], []⟩) R s := by
  intro k
  induction k with
  | zero =>
    intro i s acc c ek ile zs gS got hm kR
    have ei : i = min xs.size ys.size := by omega
    refine codeAny_builtin F.entry_extend_loop ?_
    rw [Around.under_plainId F.plain_extend_loop _]
    show wpAny _ A.in1 (pyNext (.ref z) >>= _) _ _ s
    obtain ⟨x1, x2, x3, x4, x5, x6⟩ := zs
    have hend : xs[i]? = none ∨ ys[i]? = none := by
      rcases Nat.le_total xs.size ys.size with h | h
      · exact .inl (Array.getElem?_eq_none (by omega))
      · exact .inr (Array.getElem?_eq_none (by omega))
    rcases x6 with ⟨y, a, b, y2⟩ | ⟨T, f, oT, y, y2, y3, y4, y5, y6⟩
    · refine wpAny_bind (wpAny_pyNext_zip_end noH AP y x1 y2 x2 x3 x4 x5 hend fun h' hk => ?_)
      refine wpAny_pure (kR h' acc c (fun b o n1 n2 n3 n4 n5 e => hk b o n2 n3 n4 n5 e) (hk S _ nS.1 nS.2.2.1 nS.2.2.2.1 nS.2.2.2.2.1 gS) ?_)
      rw [← ei]
      exact got.keeps fun b o hb e => hk b o (Nat.ne_of_gt (Nat.lt_of_lt_of_le bd.1 hb)) (Nat.ne_of_gt (Nat.lt_of_lt_of_le bd.2.1 hb)) (Nat.ne_of_gt (Nat.lt_of_lt_of_le bd.2.2.1 hb)) (Nat.ne_of_gt (Nat.lt_of_lt_of_le bd.2.2.2.1 hb)) e
    · refine wpAny_bind (wpAny_pyNext_zip_end_held noH AP y y2 x1 x2 x3 x4 x5 hend fun h' hk => ?_)
      refine wpAny_pure (kR h' acc c (fun b o n1 n2 n3 n4 n5 e => hk b o n2 n4 n5 e) (hk S _ nS.1 nS.2.2.2.1 nS.2.2.2.2.1 gS) ?_)
      rw [← ei]
      exact got.keeps fun b o hb e => hk b o (Nat.ne_of_gt (Nat.lt_of_lt_of_le bd.1 hb)) (Nat.ne_of_gt (Nat.lt_of_lt_of_le bd.2.2.1 hb)) (Nat.ne_of_gt (Nat.lt_of_lt_of_le bd.2.2.2.1 hb)) e
  | succ k ih =>
    intro i s acc c ek ile zs gS got hm kR
    have ilt : i < min xs.size ys.size := by omega
    refine codeAny_builtin F.entry_extend_loop ?_
    rw [Around.under_plainId F.plain_extend_loop _]
    show wpAny _ A.in1 (pyNext (.ref z) >>= _) _ _ s
    have ex := Array.getElem?_eq_getElem (show i < xs.size by omega)
    have ey := Array.getElem?_eq_getElem (show i < ys.size by omega)
    have szS : ∀ {b o}, s.heap.get? b = some o → b < s.heap.objs.size := fun e => Heap.lt_size e
    have accsz : acc.size = i := by
      obtain ⟨Ts, g1, g2, _⟩ := got
      rw [← Array.length_toList, g1, List.length_map, g2]
    have lstS := szS gS
    -- what goes on behind the pair's coming
    have go : ∀ (h' : Heap) (f' : Bool) (T' : Nat) (oT' : Obj), PySem.IsZipHeld h' z TI TO T' f' → h'.get? T' = some oT' → T' ≠ z → T' ≠ i1 → T' ≠ i2 → T' ≠ S → h'.IsListIter i1 l1 (i + 1) → h'.IsListIter i2 l2 (i + 1) → PySem.IsPair h' s.heap.objs.size xs[i] ys[i] → h'.objs.size = s.heap.objs.size + 1 →
        (∀ b o, b ≠ z → b ≠ TO → b ≠ i1 → b ≠ i2 → s.heap.get? b = some o → h'.get? b = some o) →
        wpAny (model prog w) A.in1 (updateSeq S (·.push (.ref s.heap.objs.size)) >>= fun _ => again (.builtin "list.extend.loop" ⟨[.ref S, .ref z, res], []⟩))
          (fun fin s' => match fin with | .done f => R (.ok f) s' | .again c' => c'.quiet = true ∧ codeAny (model prog w) A c' R s') (fun e s' => R (.error e) s') { s with heap := h' } := by
      intro h' f' T' oT' b1 b2 b3 b4 b5 b6 a3 a4 a5 a6 hk
      obtain ⟨x1, x2, x3, x4, x5, x6⟩ := zs
      have gS1 := hk S _ nS.1 nS.2.2.1 nS.2.2.2.1 nS.2.2.2.2.1 gS
      have oth : ∀ b o, b ≠ S → h'.get? b = some o → (h'.update S (Obj.mapSeq (·.push (.ref s.heap.objs.size)))).get? b = some o := fun b o hb e => (Heap.get?_update_other _ _ (Ne.symm hb)).trans e
      have zs1 : ZS z TI TO i1 i2 l1 l2 S xs ys (i + 1) h' := ⟨hk _ _ AP.TIz AP.TITO AP.TIi1 AP.TIi2 x1, a3, a4, x4.at fun o e => hk _ o AP.l1z AP.l1TO AP.l1i1 AP.l1i2 e, x5.at fun o e => hk _ o AP.l2z AP.l2TO AP.l2i1 AP.l2i2 e, .inr ⟨T', f', oT', b1, b2, b3, b4, b5, b6⟩⟩
      have got1 : Got m xs ys h' (acc.push (.ref s.heap.objs.size)) (i + 1) := got.push hm a6 (fun b o hb e => hk b o (by omega) (by omega) (by omega) (by omega) e) ex ey a5
      have szu : (h'.update S (Obj.mapSeq (·.push (.ref s.heap.objs.size)))).objs.size = h'.objs.size := Heap.size_after_update ..
      refine wpAny_bind ?_
      refine wpAny_updateSeq gS1 rfl (wpAny_pure ⟨plainId_quiet F.plain_extend_loop _, ih (i + 1) _ (acc.push (.ref s.heap.objs.size)) _ (by omega) (by omega) (zs1.keeps nS oth) (Heap.get?_update_self _ gS1 rfl) (got1.keeps fun b o hb e => oth b o (by omega) e) (by show m ≤ (h'.update S _).objs.size; rw [szu]; omega) fun h2 acc2 c2 hk2 gS2 got2 => ?_⟩) (by rw [accsz]; rw [sizeLine_eq]; omega) (by show (acc.push _).size ≤ sizeLine + 1; rw [Array.size_push, accsz, sizeLine_eq]; omega)
      exact kR h2 acc2 c2 (fun b o n1 n2 n3 n4 n5 e => hk2 b o n1 n2 n3 n4 n5 (oth b o n1 (hk b o n2 n3 n4 n5 e))) gS2 got2
    obtain ⟨x1, x2, x3, x4, x5, x6⟩ := id zs
    have n1 : s.heap.objs.size ≠ z := by omega
    have n2 : s.heap.objs.size ≠ i1 := by omega
    have n3 : s.heap.objs.size ≠ i2 := by omega
    have n4 : s.heap.objs.size ≠ S := by omega
    rcases x6 with ⟨y, a, b, y2⟩ | ⟨T, f, oT, y, y2, y3, y4, y5, y6⟩
    · exact wpAny_bind (wpAny_pyNext_zip_item AP y x1 y2 x2 x3 x4 x5 ex ey fun h' a1 a2 a3 a4 a5 a6 hk => go h' false _ _ a1 a5 n1 n2 n3 n4 a3 a4 a5 a6 hk)
    · exact wpAny_bind (wpAny_pyNext_zip_item_held AP y y2 x1 x2 x3 x4 x5 ex ey fun h' a1 a3 a4 a5 a6 hk => go h' true T oT a1 (hk _ _ y3 y4 y5 y2) y3 y4 y5 y6 a3 a4 a5 a6 fun b o m1 m2 m3 m4 e => hk b o m1 m3 m4 e)
end
theorem nolen_zip : typeLookup (.type "zip") "__len__" = pure none := am_miss_of_fast (by decide +kernel)
theorem nohint_zip : typeLookup (.type "zip") "__length_hint__" = pure none := am_miss_of_fast (by decide +kernel)
section
variable {prog : Program} {w : World} {A : Around} {R : Result → Shared → Prop} {s : Shared} {z TI TO i1 i2 l1 l2 S : Nat} {xs ys : Array Value} {m : Nat} {res : Value}
theorem zl_extend (noH : A.in1.handled = none) (AP : ZipApart z TI TO i1 i2 l1 l2) (nS : S ≠ z ∧ S ≠ TI ∧ S ≠ TO ∧ S ≠ i1 ∧ S ≠ i2 ∧ S ≠ l1 ∧ S ≠ l2) (bd : z < m ∧ TO < m ∧ i1 < m ∧ i2 < m ∧ S < m) (cap : xs.size ≤ 1000) (c₀ : Nat)
    (hz : PySem.IsZip s.heap z TI TO .none) (hTI : PySem.IsPair s.heap TI (.ref i1) (.ref i2)) (hTO : ∃ a b, PySem.IsPair s.heap TO a b) (h1 : s.heap.IsListIter i1 l1 0) (h2 : s.heap.IsListIter i2 l2 0) (g1 : s.heap.IsList l1 xs) (g2 : s.heap.IsList l2 ys) (gS : s.heap.get? S = some { cls := .type "list", data := .seq #[] c₀ }) (hm : m ≤ s.heap.objs.size)
    (kR : ∀ h' acc' c', (∀ b o, b ≠ S → b ≠ z → b ≠ TO → b ≠ i1 → b ≠ i2 → s.heap.get? b = some o → h'.get? b = some o) → h'.get? S = some { cls := .type "list", dict := none, data := .seq acc' c', slots := #[] } →
        Got m xs ys h' acc' (min xs.size ys.size) → R (.ok (.ret res)) { s with heap := h' }) :
    wpAny (model prog w) A.in1 (Builtin.List.listExtendWith (.ref S) (.ref z) res)
      (fun fin s' => match fin with | .done f => R (.ok f) s' | .again c' => c'.quiet = true ∧ codeAny (model prog w) A c' R s') (fun e s' => R (.error e) s') s := by
  have isZ : s.TypeIs (.ref z) "zip" := ⟨_, hz, rfl⟩
  unfold Builtin.List.listExtendWith
  refine wpAny_bind (wpAny_typeOf isZ ?_)
  have q1 : Builtin.List.listSameRef (.ref S) (.ref z) = false := by simp [Builtin.List.listSameRef, nS.1]
  have q2 : (Value.type "zip" == Value.type "list") = false := by decide
  have q3 : (Value.type "zip" == Value.type "tuple") = false := by decide
  simp only [q1, q2, q3, Bool.or_false, Bool.false_eq_true, if_false]
  refine wpAny_bind (wpAny_pyIter_zip hz ?_)
  refine wpAny_bind (wpAny_holding ?_)
  unfold Builtin.List.listLengthHint
  refine wpAny_bind (wpAny_specialOf isZ nolen_zip ?_)
  show wpAny _ A.in1 (specialOf (Value.ref z) (Str.ofString "__length_hint__") >>= _) _ _ _
  refine wpAny_bind (wpAny_specialOf isZ nohint_zip ?_)
  refine wpAny_pure ?_
  show wpAny _ A.in1 (rule "list.extend.makes-room" >>= fun _ => Builtin.List.listTouch (.ref S) >>= fun _ => again (.builtin "list.extend.loop" ⟨[.ref S, .ref z, res], []⟩)) _ _ _
  refine wpAny_bind (wpAny_rule ?_)
  refine wpAny_bind ?_
  show wpAny _ A.in1 (updateSeq S (·.push .none) >>= fun _ => updateSeq S (·.pop)) _ _ _
  refine wpAny_bind (wpAny_updateSeq gS rfl ?_)
  have gS2 := Heap.get?_update_self (Obj.mapSeq (·.push Value.none)) gS rfl
  refine wpAny_updateSeq (hz := by seq_fits) gS2 rfl ?_
  have gS3 := Heap.get?_update_self (Obj.mapSeq (·.pop)) gS2 rfl
  have oth : ∀ b o, b ≠ S → s.heap.get? b = some o → ((s.heap.update S (Obj.mapSeq (·.push Value.none))).update S (Obj.mapSeq (·.pop))).get? b = some o :=
    fun b o hb e => (Heap.get?_update_other _ _ (Ne.symm hb)).trans ((Heap.get?_update_other _ _ (Ne.symm hb)).trans e)
  obtain ⟨a, b, hTO⟩ := hTO
  have zs0 : ZS z TI TO i1 i2 l1 l2 S xs ys 0 s.heap := ⟨hTI, h1, h2, g1, g2, .inl ⟨hz, a, b, hTO⟩⟩
  refine wpAny_pure ⟨plainId_quiet F.plain_extend_loop _, zl_loop noH AP nS bd cap _ 0 _ _ _ rfl (Nat.zero_le _) (zs0.keeps nS oth) gS3 ⟨[], rfl, rfl, List.nodup_nil, fun T hT => (nomatch hT), fun j T e => by simp at e⟩ (by show m ≤ ((s.heap.update S _).update S _).objs.size; rw [Heap.size_after_update, Heap.size_after_update]; exact hm) fun h' acc' c' hk gS' got => ?_⟩
  exact kR h' acc' c' (fun b o n1 n2 n3 n4 n5 e => hk b o n1 n2 n3 n4 n5 (oth b o n1 e)) gS' got
theorem zl_init (noH : A.in1.handled = none) (AP : ZipApart z TI TO i1 i2 l1 l2) (nS : S ≠ z ∧ S ≠ TI ∧ S ≠ TO ∧ S ≠ i1 ∧ S ≠ i2 ∧ S ≠ l1 ∧ S ≠ l2) (bd : z < m ∧ TO < m ∧ i1 < m ∧ i2 < m ∧ S < m) (cap : xs.size ≤ 1000)
    (hz : PySem.IsZip s.heap z TI TO .none) (hTI : PySem.IsPair s.heap TI (.ref i1) (.ref i2)) (hTO : ∃ a b, PySem.IsPair s.heap TO a b) (h1 : s.heap.IsListIter i1 l1 0) (h2 : s.heap.IsListIter i2 l2 0) (g1 : s.heap.IsList l1 xs) (g2 : s.heap.IsList l2 ys) (gS : s.heap.get? S = some { cls := .type "list", data := .seq #[] }) (hm : m ≤ s.heap.objs.size)
    (kR : ∀ h' acc' c', (∀ b o, b ≠ S → b ≠ z → b ≠ TO → b ≠ i1 → b ≠ i2 → s.heap.get? b = some o → h'.get? b = some o) → h'.get? S = some { cls := .type "list", dict := none, data := .seq acc' c', slots := #[] } →
        Got m xs ys h' acc' (min xs.size ys.size) → R (.ok (.ret .none)) { s with heap := h' }) :
    wpAny (model prog w) A.in1 (Builtin.«list.__init__» ⟨[.ref S, .ref z], []⟩)
      (fun fin s' => match fin with | .done f => R (.ok f) s' | .again c' => c'.quiet = true ∧ codeAny (model prog w) A c' R s') (fun e s' => R (.error e) s') s := by
  show wpAny _ A.in1 (do let old ← Builtin.List.listItems (.ref S); Builtin.List.listUpdate (.ref S) (fun _ => #[]); letGo old.toList.reverse; Builtin.List.listExtendWith (.ref S) (.ref z) .none) _ _ s
  refine wpAny_bind ?_
  unfold Builtin.List.listItems
  refine wpAny_bind (wpAny_seqItems gS rfl (wpAny_pure ?_))
  show wpAny _ A.in1 (updateSeq S (fun _ => #[]) >>= fun _ => letGo (#[] : Array Value).toList.reverse >>= fun _ => Builtin.List.listExtendWith (.ref S) (.ref z) .none) _ _ s
  refine wpAny_bind (wpAny_updateSeq gS rfl ?_)
  have gS2 := Heap.get?_update_self (Obj.mapSeq (fun _ => (#[] : Array Value))) gS rfl
  have oth : ∀ b o, b ≠ S → s.heap.get? b = some o → (s.heap.update S (Obj.mapSeq (fun _ => (#[] : Array Value)))).get? b = some o := fun b o hb e => (Heap.get?_update_other _ _ (Ne.symm hb)).trans e
  refine wpAny_bind (wpAny_letGo ?_)
  obtain ⟨a, b, hTO⟩ := hTO
  refine zl_extend noH AP nS bd cap _ (oth _ _ nS.1.symm hz) (oth _ _ nS.2.1.symm hTI) ⟨a, b, oth _ _ nS.2.2.1.symm hTO⟩ (h1.at fun o e => oth _ o nS.2.2.2.1.symm e) (h2.at fun o e => oth _ o nS.2.2.2.2.1.symm e) (g1.at fun o e => oth _ o nS.2.2.2.2.2.1.symm e) (g2.at fun o e => oth _ o nS.2.2.2.2.2.2.symm e) gS2 (by show m ≤ (s.heap.update S _).objs.size; rw [Heap.size_after_update]; exact hm) fun h' acc' c' hk gS' got => ?_
  exact kR h' acc' c' (fun b o n1 n2 n3 n4 n5 e => hk b o n1 n2 n3 n4 n5 (oth b o n1 e)) gS' got
end
section
variable {prog : Program} {w : World} {A : Around} {E : Value → Shared → Prop} {s : Shared} {z TI TO i1 i2 l1 l2 : Nat} {xs ys : Array Value}
/-- list(z), z a zip over two lists -/
theorem call_list_zip {Q : Value → Shared → Prop} (noH : A.handled = none) (AP : ZipApart z TI TO i1 i2 l1 l2) (cap : xs.size ≤ 1000) (bd : z < s.heap.objs.size ∧ TI < s.heap.objs.size ∧ TO < s.heap.objs.size ∧ i1 < s.heap.objs.size ∧ i2 < s.heap.objs.size ∧ l1 < s.heap.objs.size ∧ l2 < s.heap.objs.size)
    (hz : PySem.IsZip s.heap z TI TO .none) (hTI : PySem.IsPair s.heap TI (.ref i1) (.ref i2)) (hTO : ∃ a b, PySem.IsPair s.heap TO a b) (h1 : s.heap.IsListIter i1 l1 0) (h2 : s.heap.IsListIter i2 l2 0) (g1 : s.heap.IsList l1 xs) (g2 : s.heap.IsList l2 ys)
    (kQ : ∀ h' acc' c', (∀ b o, b ≠ z → b ≠ TO → b ≠ i1 → b ≠ i2 → s.heap.get? b = some o → h'.get? b = some o) → h'.get? s.heap.objs.size = some { cls := .type "list", dict := none, data := .seq acc' c', slots := #[] } →
        Got (s.heap.objs.size + 1) xs ys h' acc' (min xs.size ys.size) → Q (.ref s.heap.objs.size) { s with heap := h' }) :
    wpAny (model prog w) A (call (.type "list") [.ref z]) Q E s := by
  obtain ⟨d1, d2, d3, d4, d5, d6, d7⟩ := bd
  refine callType_codes (Q₁ := fun obj s₁ => obj = .ref s.heap.objs.size ∧ s₁ = { s with heap := s.heap.push { cls := .type "list", data := .seq #[] } }) F.called_list (F.typeCall_list_1 _) F.entry_list_init
    (code_list_new _ ⟨rfl, rfl⟩) fun obj s₁ h₁ => ?_
  obtain ⟨rfl, rfl⟩ := h₁
  have gS : (s.heap.push { cls := .type "list", data := .seq #[] }).get? s.heap.objs.size = some { cls := .type "list", data := .seq #[] } := Heap.get?_push_size _ rfl
  have up : ∀ b o, s.heap.get? b = some o → (s.heap.push { cls := .type "list", data := .seq #[] }).get? b = some o := fun b o e => Heap.get?_push_of_some _ e
  obtain ⟨a, b, hTO⟩ := hTO
  refine ⟨⟨_, gS, rfl⟩, F.args_list_init_2 _ _, zl_init (m := s.heap.objs.size + 1) noH AP ⟨by omega, by omega, by omega, by omega, by omega, by omega, by omega⟩ ⟨by omega, by omega, by omega, by omega, by omega⟩ cap (up _ _ hz) (up _ _ hTI) ⟨a, b, up _ _ hTO⟩ (h1.at fun o e => up _ o e) (h2.at fun o e => up _ o e) (g1.at fun o e => up _ o e) (g2.at fun o e => up _ o e) gS (by show s.heap.objs.size + 1 ≤ (s.heap.push _).objs.size; rw [Heap.size_push]; exact Nat.le_refl _) fun h' acc' c' hk gS' got => ?_⟩
  refine ⟨rfl, kQ h' acc' c' (fun b o n1 n2 n3 n4 e => hk b o (Nat.ne_of_lt (Heap.lt_size e)) n1 n2 n3 n4 (up b o e)) gS' got⟩
end
end EvT
namespace Ev
open PySem PySem.Spec PyProof.Rows L2
/-- pairs that stand on the heap, not yet known -/
inductive PairsOk (G : GC) (w : Wd) (H : Hp) (h : Heap) (m : Nat) : List Nat → List D → Prop
  | nil : PairsOk G w H h m [] []
  | cons {T : Nat} {Ts : List Nat} {d e : D} {ds : List D} {v u : V} {a b : Value} : m ≤ T → RelV v a → RelV u b → PySem.IsPair h T a b → Rep G w H d v → Rep G w H e u → PairsOk G w H h m Ts ds → PairsOk G w H h m (T :: Ts) (.tup [d, e] :: ds)
theorem PairsOk.mono {G : GC} {w w1 : Wd} {H H1 : Hp} {h : Heap} {m : Nat} (l : Le w H w1 H1) : ∀ {Ts : List Nat} {ds : List D}, PairsOk G w H h m Ts ds → PairsOk G w1 H1 h m Ts ds
  | _, _, .nil => .nil
  | _, _, .cons p1 p2 p3 p4 p5 p6 p7 => .cons p1 p2 p3 p4 (p5.mono l) (p6.mono l) (p7.mono l)
theorem adopt_pairs {P : Program} {W : World} {G : GC} {h h2 : Heap} {m : Nat} {st : HSt} {fs : List Addr} (hm : h.objs.size ≤ m) : ∀ {Ts : List Nat} {ds : List D} {w : Wd} {H : Hp}, PairsOk G w H h2 m Ts ds → Ts.Nodup → WRel G w H st → HOk P W H h2 → (∀ T ∈ Ts, H T = none) →
    ∃ w' H', PExt w H w' H' ∧ WRel G w' H' st ∧ HOk P W H' h2 ∧ Un fs [] H H' h h ∧ RepAll G w' H' ds (Ts.map V.ref) ∧ ∀ b, b ∉ Ts → H' b = H b
  | [], _, w, H, .nil, _, wr, hok, _ => ⟨w, H, .refl, wr, hok, .refl, .nil, fun _ _ => rfl⟩
  | T :: Ts, _, w, H, .cons (d := d) (e := e) (v := v) (u := u) (a := a) (b := b) p1 p2 p3 p4 p5 p6 p7, nd, wr, hok, hn => by
    obtain ⟨n1, n2⟩ := List.nodup_cons.mp nd
    have hT := hn T (by simp)
    have x1 : PExt w H (w.frz T) (upd H T (.frz (tupO [a, b]) (.tup [v, u]))) := PExt.new hT
    have wr1 := x1.wrel wr
    have ok1 : HOk P W (upd H T (.frz (tupO [a, b]) (.tup [v, u]))) h2 := hok.laidN (fun _ _ e => e) hT ⟨p4, by rw [sizeLine_eq]; simp, [a, b], .cons p2 (.cons p3 .nil), ⟨_, p4, rfl, 0, rfl⟩⟩
    obtain ⟨w', H', x2, wr2, ok2, un2, ra, eq2⟩ := adopt_pairs hm (p7.mono (x1.ext.le wr)) n2 wr1 ok1 fun T' hT' => by
      rw [upd_ne (fun z => n1 (by rw [← z]; exact hT'))]
      exact hn T' (by simp [hT'])
    refine ⟨w', H', x1.trans x2, wr2, ok2, (Un.laid (fun _ _ e => e) (Nat.le_trans hm p1) hT).trans un2, .cons ?_ ra, fun c hc => ?_⟩
    · exact (Rep.newTup (o := tupO [a, b]) (.cons p5 (.cons p6 .nil)) wr hT rfl).mono (x2.ext.le wr1)
    · rw [eq2 c (fun z => hc (by simp [z])), upd_ne (fun z => hc (by simp [z]))]
end Ev
namespace Ev
open PySem PySem.Spec PyProof.Rows L2
theorem hitN_mem {s : List Nat} {i : Int} : ∀ {l : List (List Nat × Int)}, hitN l s = some i → ∃ p ∈ l, p.1 = s ∧ p.2 = i
  | [], h => by cases h
  | a :: l, h => by
    unfold hitN at h
    cases q : eqN a.1 s with
    | true =>
      rw [q] at h
      have h : some a.2 = some i := h
      cases h
      exact ⟨a, by simp, eqN_iff.mp q, rfl⟩
    | false =>
      rw [q] at h
      have h : hitN l s = some i := h
      obtain ⟨p, h1, h2⟩ := hitN_mem h
      exact ⟨p, by simp [h1], h2⟩
theorem firstAt_spec {y : D} : ∀ {ds : List D} {j : Nat}, firstAt y ds = some j → (∃ d, ds[j]? = some d ∧ beq d y = true) ∧ ∀ (m : Nat) (d : D), m < j → ds[m]? = some d → beq d y = false
  | [], _, h => by cases h
  | d :: ds, j, h => by
    unfold firstAt at h
    cases q : beq d y with
    | true =>
      rw [if_pos q] at h
      cases h
      exact ⟨⟨d, rfl, q⟩, fun m d' hm => absurd hm (Nat.not_lt_zero _)⟩
    | false =>
      rw [if_neg (by rw [q]; simp)] at h
      cases z : firstAt y ds with
      | none => rw [z] at h; cases h
      | some i =>
        rw [z] at h
        cases h
        obtain ⟨⟨d1, e1, e2⟩, e3⟩ := firstAt_spec z
        refine ⟨⟨d1, by simpa using e1, e2⟩, fun m d' hm hd => ?_⟩
        cases m with
        | zero => cases hd; exact q
        | succ m =>
          have hm : m + 1 < i + 1 := hm
          exact e3 m d' (by omega) (by simpa using hd)
theorem pairsOk_of {G : GC} {w : Wd} {H : Hp} {h : Heap} {m : Nat} : ∀ {Ts : List Nat} {ds1 ds2 : List D} {vs1 vs2 : List V} {us1 us2 : List Value}, RepAll G w H ds1 vs1 → RepAll G w H ds2 vs2 → Vals vs1 us1 → Vals vs2 us2 → Ts.length = min us1.length us2.length → (∀ T ∈ Ts, m ≤ T) →
    (∀ (j : Nat) (T : Nat), Ts[j]? = some T → ∃ x y, us1[j]? = some x ∧ us2[j]? = some y ∧ PySem.IsPair h T x y) → PairsOk G w H h m Ts (zipD ds1 ds2)
  | Ts, _, _, _, _, _, _, .nil, _, .nil, _, hl, _, _ => by
    have : Ts = [] := by cases Ts with
      | nil => rfl
      | cons _ _ => simp at hl
    subst this
    exact .nil
  | Ts, _, _, _, _, _, _, .cons r1 rs1, .nil, .cons v1 vs1, .nil, hl, _, _ => by
    have : Ts = [] := by cases Ts with
      | nil => rfl
      | cons _ _ => simp at hl
    subst this
    exact .nil
  | [], _, _, _, _, _, _, .cons r1 rs1, .cons r2 rs2, .cons v1 vs1, .cons v2 vs2, hl, _, _ => by simp at hl
  | T :: Ts, _, _, _, _, _, _, .cons r1 rs1, .cons r2 rs2, .cons v1 vs1, .cons v2 vs2, hl, hm, hp => by
    obtain ⟨x, y, e1, e2, e3⟩ := hp 0 T rfl
    cases e1
    cases e2
    exact .cons (hm T (by simp)) v1 v2 e3 r1 r2 (pairsOk_of rs1 rs2 vs1 vs2 (by simp at hl; omega) (fun T' h' => hm T' (by simp [h'])) fun j T' e => hp (j + 1) T' (by simpa using e))
section
variable {X : Cx} {g : GN} {ck : CK} {con : Nat → Option D} {C : CT} {N : List Str} {sc : Scope} {W : WX} {k : Nat} {w0 : Wd} {H0 : Hp}
variable {ea eb : EvEnv → HSt → R D} {u v : Expr}
/-- xs.index(y) -/
theorem r_index {m : Str} {ap cp : Pos} (gd : Good X g ck con C N sc W k) (hm : seq m "index" = true) (hl : (ap.endLine == cp.line) = true) (hb : nmLst u = true) (hst : notStar v = true) (h1 : PE X u (TEv (Gx X g) w0 H0 W <| ea)) (h2 : PE X v (TEv (Gx X g) w0 H0 W <| eb)) :
    PE X (.Call (.Attribute u m ap) [v] [] cp) (TEv (Gx X g) w0 H0 W <| fun env st => (ea env st).bind fun x st => guardP (x2ok .index x) ((eb env st).bind fun y st => liftO (x2D .index x y) st)) := by
  have := seq_eq hm
  subst this
  have base : attributeBase u "index" X.env (eval u X.env) = eval u X.env := by
    cases u <;> first | rfl | cases hb
  refine PE.imp (pe_bm PySem.F.plainAttrs_list PySem.F.slot_list_index PySem.F.type_list_index mt_index h1 (pa_cons h2 pa_nil (star_ok hst _ _)) base ?_ hl (star_ok hst _ _) rfl) fun σ H Q ⟨env, w, st, fr, y⟩ => ?_
  · rw [star_ok hst]; rfl
  · refine T.seq fr y fun d vv w1 H1 st1 _ fr1 x1 r1 y1 => ?_
    cases d with
    | lst ds =>
      cases r1 with
      | lst f l q =>
        rename_i a vs
        refine ⟨.inl ⟨rfl, _, SqL.of l⟩, ?_⟩
        have y1 : Yl (Gx X g) W (Rep (Gx X g)) σ w1 H1 ((eb env st1).bind fun y st => liftO (x2D .index (.lst ds) y) st) Q := y1
        refine T.seq fr1 y1 fun e uu w2 H2 st2 _ fr2 x2 r2 y2 => ?_
        have le := x2.le fr1.wr
        have r3 : Rep (Gx X g) w2 H2 (.lst ds) (.ref a) := Rep.mono le (.lst f l q)
        cases r3 with
        | lst f' l' q' =>
          rename_i vs'
          obtain ⟨dr, er, pp⟩ := Yl.lift y2 fr2.wr
          have er : (if (flatD e && ds.all flatD) = true then (firstAt e ds).map (fun (n : Nat) => D.int n) else none) = some dr := er
          cases hfl : (flatD e && ds.all flatD) with
          | false => rw [hfl, if_neg (by simp)] at er; cases er
          | true =>
            rw [hfl, if_pos rfl] at er
            obtain ⟨fe, fds⟩ := Bool.and_eq_true_iff.mp hfl
            cases hfa : firstAt e ds with
            | none => rw [hfa] at er; cases er
            | some j =>
              rw [hfa] at er
              cases er
              obtain ⟨⟨d1, e1, e2⟩, e3⟩ := firstAt_spec hfa
              have evu := rep_flat fe r2
              subst evu
              obtain ⟨v1, e4, r4⟩ := q'.get e1
              have fd1 := List.all_eq_true.mp fds d1 (List.mem_of_getElem? e1)
              have ev1 := rep_flat fd1 r4
              subst ev1
              obtain ⟨fl, _⟩ := inV_any fe q' fds
              refine ⟨a, vs', vF e, j, vF d1, rfl, rfl, SqL.of l', vF_flat fe, fl, e4, by rw [eqV_beq fd1 fe]; exact e2, fun m z hm hz => ?_, pp w2 H2 _ .refl (.int _)⟩
              obtain ⟨d2, e5, r5⟩ := q'.getV hz
              have fd2 := List.all_eq_true.mp fds d2 (List.mem_of_getElem? e5)
              have ev2 := rep_flat fd2 r5
              subst ev2
              rw [eqV_beq fd2 fe]
              exact e3 m d2 hm e5
    | _ => exact y1.elim
/-- d.get(z, i), d a dict that the module holds -/
theorem r_kget {x m : Str} {p ap cp : Pos} {j : Nat} {hits : List (List Nat × Int)} {miss : List (List Nat)} (gd : Good X g ck con C N sc W k) (hm : seq m "get" = true) (hl : (ap.endLine == cp.line) = true) (hk : ck.kd j hits miss = true) (hx : globB sc x (ck.dn j) = true) (hsu : notStar u = true) (hsv : notStar v = true)
    (h1 : PE X u (TEv (Gx X g) w0 H0 W <| ea)) (h2 : PE X v (TEv (Gx X g) w0 H0 W <| eb)) : PE X (.Call (.Attribute (.Name x p) m ap) [u, v] [] cp) (TEv (Gx X g) w0 H0 W <| fun env st => (ea env st).bind fun x st => guardP (x2ok (.kget j hits miss) x) ((eb env st).bind fun y st => liftO (x2D (.kget j hits miss) x y) st)) := by
  have := seq_eq hm
  subst this
  obtain ⟨rfl, hg, hpn⟩ := globB_ok hx
  obtain ⟨d, es, n, hmg, KD, hh, hmi⟩ := gd.mg.kd j hits miss hk
  constructor
  intro pins s σ H Q I ⟨env, w, st, fr, y⟩
  have ho : PE X (.Name (ck.dn j) p) (tC (.ref d)) := pe_glob (gd.gl hg) hmg (v := .ref d) rfl (plain_ok hpn).1
  have ha := pa_cons h1 (pa_cons h2 pa_nil (star_ok hsv [] X.env)) (star_ok hsu [v] X.env)
  refine wpAny_Call_method_late (by rfl) (by rw [star_ok hsu, star_ok hsv]; rfl) hl rfl (thn (ho.run pins s σ H (fun z H1 => z = .ref d ∧ H1 = H) I ⟨rfl, rfl⟩) fun vv s1 ⟨z, H1, I1, r1, e1, e2⟩ => ?_)
  subst e1 e2
  obtain rfl : vv = Value.ref d := r1
  have hty := kd_type KD I1
  refine ⟨"dict", "dict.get", PySem.F.plainAttrs_dict, PySem.F.slot_dict_get, PySem.F.type_dict_get, hty, fun a e => ?_, ?_⟩
  · cases e
    exact ⟨_, I1.kIn _ _ KD.at_, rfl⟩
  · have hA := ha.run cp pins s1 σ H1 (fun vs H2 => ∃ (zs : List Nat) (i : Int) (r : Option Int), vs = [.str ⟨zs.toArray⟩, .int i] ∧ (hitN hits zs = some (r.getD i) ∧ r.isSome = true ∨ hitN hits zs = none ∧ r = none ∧ miss.any (fun z => eqN z zs) = true) ∧ Q (.int (r.getD i)) H2) I1 ?_
    · rw [star_ok hsu] at hA ⊢
      refine Calls.callWith_builtin (by show (false || (backTo cp (starEach [v] X.env)).any (·.1)) = false; rw [star_ok hsv]; rfl) (Calls.evalArgs_plain ?_)
      refine thn hA fun us s2 ⟨vs, H2, I2, r2, zs, i, r, e1, e2, q⟩ => ?_
      subst e1
      cases r2 with
      | cons ra rr =>
        cases rr with
        | cons rb rr =>
          cases rr
          obtain ⟨tz, rfl⟩ := ra
          have fin : ∀ (rv : Option Value), PySem.W.nsIn X.K d ⟨zs.toArray⟩ = some rv → (∀ u0, rv = some u0 → L2.RelV (.int (r.getD i)) u0) → (rv = none → r = none) →
              wpAny (model X.prog X.w) X.A (call (.builtin "dict.get") [.ref d, .str ⟨zs.toArray⟩ tz, _]) (EP X pins σ Q) X.xe s2 := fun rv hns g1 g2 => by
            refine call_meetsIn PySem.F.slot_dict_get (kd_type KD I2) PySem.F.entry_dict_get (PySem.F.args_dict_get_3 _ _ _) (meets_dict_get_default (PySem.strKind X.prog X.w) d (PySem.strKind_is X.prog X.w ⟨zs.toArray⟩ tz) KD.low _) ⟨_, PySem.W.mapOf_K (prog := X.prog) I2.kIn KD.at_ KD.lit, ?_⟩
            rw [PySem.W.find_K KD.at_ hns]
            cases rv with
            | none =>
              have := g2 rfl
              subst this
              exact ⟨.int i, H2, I2.tok _, rb, q⟩
            | some u0 => exact ⟨.int (r.getD i), H2, I2.tok _, g1 u0 rfl, q⟩
          rcases e2 with ⟨h3, h4⟩ | ⟨h3, h4, h5⟩
          · obtain ⟨pq, hpq, e5, e6⟩ := hitN_mem h3
            obtain ⟨u0, h6, h7⟩ := hh pq hpq
            rw [e5] at h6
            rw [e6] at h7
            exact fin _ h6 (fun u1 e => by cases e; exact h7) (fun e => by cases e)
          · obtain ⟨z, hz, e5⟩ := List.any_eq_true.mp h5
            have := eqN_iff.mp e5
            subst this
            exact fin _ (hmi z hz) (fun u1 e => by cases e) (fun _ => h4)
    · refine T.seq fr y fun dd vv w1 H1 st1 _ fr1 x1 r1 y1 => ?_
      cases dd with
      | str zs =>
        have e1 := rep_str r1
        subst e1
        have y1 : Yl (Gx X g) W (Rep (Gx X g)) σ w1 H1 ((eb env st1).bind fun y st => liftO (x2D (.kget j hits miss) (.str zs) y) st) Q := y1
        refine T.seq fr1 y1 fun e uu w2 H2 st2 _ fr2 x2 r2 y2 => ?_
        obtain ⟨dr, er, pp⟩ := Yl.lift y2 fr2.wr
        cases e with
        | int i =>
          have e2 := rep_int r2
          subst e2
          have er : (match hitN hits zs with | some j => some (D.int j) | none => if miss.any (fun z => eqN z zs) then some (.int i) else none) = some dr := er
          cases hz : hitN hits zs with
          | some jv =>
            rw [hz] at er
            cases er
            exact ⟨zs, i, some jv, rfl, .inl ⟨hz, rfl⟩, pp w2 H2 _ .refl (.int jv)⟩
          | none =>
            rw [hz] at er
            cases hmm : miss.any (fun z => eqN z zs) with
            | false => rw [hmm] at er; cases er
            | true =>
              rw [hmm] at er
              cases er
              exact ⟨zs, i, none, rfl, .inr ⟨hz, rfl, hmm⟩, pp w2 H2 _ .refl (.int i)⟩
        | _ => cases er
      | _ => exact y1.elim
/-- {x: None} -/
theorem n_dct1 {x : Str} {i : Nat} {p p2 pos : Pos} {kk} (gd : Good X g ck con C N sc W k) (hx : varB N sc i x = true) :
    PE X (.Dict [some (.Name x p)] [.Constant .none kk p2] pos) (TOv (Gx X g) w0 H0 W <| fun env st => match env[i]? with | some (some (false, .str s)) => .ok (.dk [.inr s] [.non]) st | _ => .bad) := by
  unfold varB at hx
  simp only [Bool.and_eq_true] at hx
  obtain ⟨p1, p2'⟩ := plain_ok hx.2
  refine PE.imp (pe_disp (pps_cons (pe_var (pos := p) (i := i) (by rw [gd.hN]; exact slotB_ok hx.1.1) (gd.vis hx.1.2) p1 p2') (pe_non (j := kk) (pos := p2)) pps_nil) rfl rfl (by simp) (by simp)) fun σ H Q ⟨env, w, st, fr, y⟩ q hq => ?_
  dsimp only at y
  cases qe : env[i]? with
  | none => rw [qe] at y; exact y.elim
  | some s =>
    rw [qe] at y
    match s, y, qe with
    | some (true, d), y, _ => exact y.elim
    | none, y, _ => exact y.elim
    | some (false, d), y, qe =>
      cases d with
      | str z =>
        obtain ⟨v, e1, r⟩ := fr.val qe
        have e2 := rep_str r
        subst e2
        refine ⟨_, e1, ?_⟩
        dsimp only [tC, tPairs]
        refine ⟨upd_same, [(.inr ⟨z.toArray⟩, .non)], rfl, by simp, ?_⟩
        have eu : upd (upd H q (.dK [])) q (.dK (mergeK [] [(.inr ⟨z.toArray⟩, .non)])) = upd H q (.dK [(.inr ⟨z.toArray⟩, .non)]) := by
          funext b
          by_cases hb : b = q
          · rw [hb, upd_same, upd_same]; rfl
          · rw [upd_ne hb, upd_ne hb, upd_ne hb]
        rw [eu]
        have f2 := fr.alloc (o := .dK [(.inr ⟨z.toArray⟩, .non)]) (d := .dk [.inr z] [.non]) hq ⟨[.non], upd_same, rfl, .cons .non .nil⟩
        exact y w _ q ⟨fun _ h => h, fun _ _ h => h, fun a o h _ _ => by rw [upd_ne (ne_of_none h hq)]; exact h, fun _ h => .inl h, fun _ h => .inl h, fun a u h n => ⟨u, by rw [upd_ne (ne_of_none h hq)]; exact h, n⟩⟩ (.of hq) f2
      | _ => exact y.elim
theorem dedN_mem {s : List Nat} : ∀ {l : List (List Nat)}, s ∈ dedN l ↔ s ∈ l
  | [] => by simp [dedN]
  | x :: l => by
    unfold dedN
    split
    · rename_i h
      obtain ⟨y, hy, e⟩ := List.any_eq_true.mp h
      have := eqN_iff.mp e
      subst this
      rw [dedN_mem (l := l)]
      constructor
      · intro q; simp [q]
      · intro q
        rcases List.mem_cons.mp q with rfl | q
        · exact hy
        · exact q
    · simp only [List.mem_cons, dedN_mem (l := l)]
theorem dedN_nodup : ∀ l : List (List Nat), (dedN l).Nodup
  | [] => by simp [dedN]
  | x :: l => by
    unfold dedN
    split
    · exact dedN_nodup l
    · rename_i h
      refine List.nodup_cons.mpr ⟨fun q => h ?_, dedN_nodup l⟩
      exact List.any_eq_true.mpr ⟨x, dedN_mem.mp q, eqN_iff.mpr rfl⟩
theorem mkS_inj {a b : List Nat} (h : mkS a = mkS b) : a = b := by
  have := congrArg (fun s : Str => s.cps.toList) h
  simpa [mkS] using this
theorem nodup_mkS : ∀ {l : List (List Nat)}, l.Nodup → (l.map mkS).Nodup
  | [], _ => by simp
  | x :: l, h => by
    obtain ⟨h1, h2⟩ := List.nodup_cons.mp h
    refine List.nodup_cons.mpr ⟨fun q => ?_, nodup_mkS h2⟩
    obtain ⟨y, hy, e⟩ := List.mem_map.mp q
    have := mkS_inj e
    subst this
    exact h1 hy
theorem ded_perm {ns : List (List Nat)} {ss : List Str} (nd : ss.Nodup) (hm : ∀ k, k ∈ ss ↔ k ∈ ns.map mkS) : ss.Perm ((dedN ns).map mkS) := by
  refine (List.perm_ext_iff_of_nodup nd (nodup_mkS (dedN_nodup ns))).mpr fun k => ?_
  rw [hm k, List.mem_map, List.mem_map]
  constructor
  · rintro ⟨y, hy, rfl⟩; exact ⟨y, dedN_mem.mpr hy, rfl⟩
  · rintro ⟨y, hy, rfl⟩; exact ⟨y, dedN_mem.mp hy, rfl⟩
/-- set(xs), xs a list of texts: what then goes on with it -/
theorem set_arg {y : Str} {p2 p3 : Pos} {Qv : Value → Shared → Prop} {pins : List (Addr × Obj)} {σ : L2.St} {H : Hp} {s : Shared} (gd : Good X g ck con C N sc W k) (hy : globB sc y "set" = true) (hst : notStar u = true) (I : Inv X pins σ H s)
    {te : TE} (h : PE X u te) (hq : te σ H fun x H1 => ∃ (a : Addr) (ns : List (List Nat)), x = .ref a ∧ SqL X.K H1 a ((ns.map mkS).map V.str) ∧ ns.length < 60 ∧
      ∀ (s2 : Shared) (b : Addr) (c : Nat), Inv X pins σ H1 s2 → EvT.SetX X.w s2.heap b (fun j => decide (j ∈ ns.map mkS)) c → c ≤ ns.length → Qv (.ref b) s2) :
    wpAny (model X.prog X.w) X.A (eval (.Call (.Name y p2) [u] [] p3) X.env) Qv X.xe s := by
  obtain ⟨rfl, hg, hpn⟩ := globB_ok hy
  have na := star_ok hst [] X.env
  refine Call_ (ld_blt I (gd.gl hg) gd.mg.set_ boot_set ?_ (by decide +kernel) (plain_ok hpn).1)
  refine PyProof.Rows.callWith_type1 (PyProof.Rows.args_cons (thn (h.run pins s σ H _ I hq) fun v s1 ⟨x, H1, I1, r1, q1⟩ => PyProof.Rows.args_nil ?_) na) na rfl
  obtain ⟨a, ns, rfl, hl, h60, q⟩ := q1
  cases r1
  obtain ⟨its, r, pl, hz⟩ := I1.list hl
  refine EvT.call_set_txts (ns.map mkS) (I1.ok.hd gd.calm) pl.isList (by simpa using strsAre_of r) (by rw [List.length_map]; unfold scanBound; omega) fun h' tk c oS hc hk => ?_
  exact q _ _ c (I1.kept hk) oS (by rw [List.length_map] at hc; exact hc)
theorem r_sset {x y : Str} {p p2 p3 pos : Pos} (gd : Good X g ck con C N sc W k) (hx : globB sc x (biN .sorted) = true) (hy : globB sc y "set" = true) (hst : notStar u = true) (h : PE X u (TEv (Gx X g) w0 H0 W <| ea)) :
    PE X (.Call (.Name x p) [.Call (.Name y p2) [u] [] p3] [] pos) (TEv (Gx X g) w0 H0 W <| fun env st => (ea env st).bind fun x st => liftO (x1D .sset x) st) := by
  obtain ⟨rfl, hg, hpn⟩ := globB_ok hx
  constructor
  intro pins s σ H Q I ⟨env, w, st, fr, yl⟩
  refine Call_ (ld_blt I (gd.gl hg) (gd.mg.bi .sorted) (bi_boot .sorted) ?_ (bi_name .sorted) (plain_ok hpn).1)
  refine PyProof.Rows.callWith_builtin1 (PyProof.Rows.args_cons ?_ rfl) rfl rfl
  refine set_arg gd hy hst I h ?_
  refine T.seq fr yl fun d vv w1 H1 st1 _ fr1 x1 r1 y1 => ?_
  cases d with
  | lst ds =>
    cases r1 with
    | lst f l q =>
      rename_i a vs
      obtain ⟨dr, er, pp⟩ := Yl.lift y1 fr1.wr
      have er : ((allStr ds).bind fun ss => if ss.length < 60 then some (D.lst ((sortN (dedN ss)).map .str)) else none) = some dr := er
      cases hs : allStr ds with
      | none => rw [hs] at er; cases er
      | some ns =>
        rw [hs] at er
        have er : (if ns.length < 60 then some (D.lst ((sortN (dedN ns)).map .str)) else none) = some dr := er
        split at er
        · rename_i h60
          cases er
          cases allStr_map hs q
          refine ⟨a, ns, rfl, SqL.of l, h60, fun s2 b c I2 oS hc => PyProof.Rows.args_nil ?_⟩
          refine EvT.sorted_txts oS (I2.ok.hd gd.calm) (by omega) fun s' p0 out cc ss kk gg oo hp hgt areS srt nd hm hl => ?_
          have hm : ∀ k, k ∈ ss ↔ k ∈ ns.map mkS := fun k => by rw [hm k, decide_eq_true_eq]
          have es := sortN_unique (ded_perm nd hm) srt
          have hlen : (ss.map V.str).length ≤ sizeLine := by rw [List.length_map, hl, sizeLine_eq]; omega
          have hn : H1 p0 = none := I2.hok.fresh hp
          have J : Inv X pins σ (upd H1 p0 (.lst (ss.map V.str))) { s2 with heap := s'.heap, gens := s'.gens, drawn := s'.drawn, toks := s'.toks } :=
            I2.call (ch := []) (Un.laid kk hp hn) (I2.hok.laid kk hp ⟨hlen, out.toList, cc, vals_of_strs areS, hgt⟩) (by rw [gg]; exact I2.bare) (fun _ z => nomatch z)
          have e : s' = { s2 with heap := s'.heap, gens := s'.gens, drawn := s'.drawn, toks := s'.toks } := by
            cases s'
            cases s2
            cases oo
            rfl
          rw [e]
          refine ⟨.ref p0, _, J, rfl, ?_⟩
          rw [es]
          exact pp.lst fr1.wr (reps_strs _) p0 hn
        · cases er
  | _ => exact (by cases (Yl.lift y1 fr1.wr).choose_spec.1)
theorem r_lset {x y : Str} {p p2 p3 pos : Pos} (gd : Good X g ck con C N sc W k) (hx : globB sc x (biN .len) = true) (hy : globB sc y "set" = true) (hst : notStar u = true) (h : PE X u (TEv (Gx X g) w0 H0 W <| ea)) :
    PE X (.Call (.Name x p) [.Call (.Name y p2) [u] [] p3] [] pos) (TEv (Gx X g) w0 H0 W <| fun env st => (ea env st).bind fun x st => liftO (x1D .lset x) st) := by
  obtain ⟨rfl, hg, hpn⟩ := globB_ok hx
  constructor
  intro pins s σ H Q I ⟨env, w, st, fr, yl⟩
  refine Call_ (ld_blt I (gd.gl hg) (gd.mg.bi .len) (bi_boot .len) ?_ (bi_name .len) (plain_ok hpn).1)
  refine PyProof.Rows.callWith_builtin1 (PyProof.Rows.args_cons ?_ rfl) rfl rfl
  refine set_arg gd hy hst I h ?_
  refine T.seq fr yl fun d vv w1 H1 st1 _ fr1 x1 r1 y1 => ?_
  cases d with
  | lst ds =>
    cases r1 with
    | lst f l q =>
      rename_i a vs
      obtain ⟨dr, er, pp⟩ := Yl.lift y1 fr1.wr
      have er : ((allStr ds).bind fun ss => if ss.length < 60 then some (D.int (dedN ss).length) else none) = some dr := er
      cases hs : allStr ds with
      | none => rw [hs] at er; cases er
      | some ns =>
        rw [hs] at er
        have er : (if ns.length < 60 then some (D.int (dedN ns).length) else none) = some dr := er
        split at er
        · rename_i h60
          cases er
          cases allStr_map hs q
          refine ⟨a, ns, rfl, SqL.of l, h60, fun s2 b c I2 oS hc => PyProof.Rows.args_nil ?_⟩
          obtain ⟨o, fs, ep, t, qo, qx, qd, gX, nd, qm, qb, qf, qn, qr, ql⟩ := oS
          have hcount : fs.size = (dedN ns).length := by
            have hp := ded_perm (ns := ns) (ss := fs.toList.map EvT.keyX) nd fun k => by rw [← qm k, decide_eq_true_eq]
            have := hp.length_eq
            rw [List.length_map, List.length_map, Array.length_toList] at this
            exact this
          refine call_len_set qo qx qd qf (by omega) ⟨.int (dedN ns).length, H1, I2.tok _, ⟨_, by rw [hcount]⟩, pp w1 H1 _ .refl (.int _)⟩
        · cases er
  | _ => exact (by cases (Yl.lift y1 fr1.wr).choose_spec.1)
theorem r_zipL {x y : Str} {p p2 p3 pos : Pos} (gd : Good X g ck con C N sc W k) (hx : globB sc x (biN .list) = true) (hy : globB sc y "zip" = true) (hsu : notStar u = true) (hsv : notStar v = true) (h1 : PE X u (TEv (Gx X g) w0 H0 W <| ea)) (h2 : PE X v (TEv (Gx X g) w0 H0 W <| eb)) :
    PE X (.Call (.Name x p) [.Call (.Name y p2) [u, v] [] p3] [] pos) (TEv (Gx X g) w0 H0 W <| fun env st => (ea env st).bind fun x st => guardP (x2ok .zipL x) ((eb env st).bind fun y st => liftO (x2D .zipL x y) st)) := by
  obtain ⟨rfl, hg, hpn⟩ := globB_ok hx
  obtain ⟨rfl, hg2, hpn2⟩ := globB_ok hy
  constructor
  intro pins s σ H Q I ⟨env, w, st, fr, yl⟩
  have ha := pa_cons h1 (pa_cons h2 pa_nil (star_ok hsv [] X.env)) (star_ok hsu [v] X.env)
  refine Call_ (ld_blt I (gd.gl hg) (gd.mg.bi .list) (bi_boot .list) ?_ (bi_name .list) (plain_ok hpn).1)
  refine PyProof.Rows.callWith_type1 (PyProof.Rows.args_cons ?_ rfl) rfl rfl
  refine Call_ (ld_blt I (gd.gl hg2) gd.mg.zip boot_zip ?_ (by decide +kernel) (plain_ok hpn2).1)
  refine PyProof.Rows.callWith_type1 (thn (ha.run p3 pins s σ H (fun vs H2 => ∃ (a b : Addr) (vs1 vs2 : List V), vs = [.ref a, .ref b] ∧ SqL X.K H2 a vs1 ∧ SqL X.K H2 b vs2 ∧ vs1.length ≤ 1000 ∧ ∃ (w2 : Wd) (st2 : HSt) (ds1 ds2 : List D), WRel (Gx X g) w2 H2 st2 ∧ RepAll (Gx X g) w2 H2 ds1 vs1 ∧ RepAll (Gx X g) w2 H2 ds2 vs2 ∧ PY (Gx X g) w2 H2 (.lst (zipD ds1 ds2)) Q) I ?_) fun us s1 hus => ?_) (star_ok hsu [v] X.env) (by rw [star_ok hsv]; rfl)
  · refine T.seq fr yl fun d vv w1 H1 st1 _ fr1 x1 r1 y1 => ?_
    cases d with
    | lst ds1 =>
      cases r1 with
      | lst f1 l1 q1 =>
        rename_i a vs1
        have y1 : Yl (Gx X g) W (Rep (Gx X g)) σ w1 H1 ((eb env st1).bind fun y st => liftO (x2D .zipL (.lst ds1) y) st) Q := y1
        refine T.seq fr1 y1 fun e uu w2 H2 st2 _ fr2 x2 r2 y2 => ?_
        obtain ⟨dr, er, pp⟩ := Yl.lift y2 fr2.wr
        have r3 : Rep (Gx X g) w2 H2 (.lst ds1) (.ref a) := Rep.mono (x2.le fr1.wr) (.lst f1 l1 q1)
        cases e with
        | lst ds2 =>
          cases r2 with
          | lst f2 l2 q2 =>
            rename_i b vs2
            cases r3 with
            | lst f3 l3 q3 =>
              rename_i vs3
              have er : (if ds1.length ≤ 1000 then some (D.lst (zipD ds1 ds2)) else none) = some dr := er
              split at er
              · rename_i hlen
                cases er
                exact ⟨a, b, vs3, vs2, rfl, SqL.of l3, SqL.of l2, by rw [← q3.length]; exact hlen, w2, st2, ds1, ds2, fr2.wr, q3, q2, pp⟩
              · cases er
        | _ => cases er
    | _ => exact y1.elim
  · obtain ⟨vs, H2, I2, rv, a, b, vs1, vs2, rfl, sq1, sq2, hlen, w2, st2, ds1, ds2, wr2, ra1, ra2, pp⟩ := hus
    cases rv with
    | cons e1 rr =>
      cases rr with
      | cons e2 rr =>
        cases rr
        cases e1
        cases e2
        obtain ⟨us1, rv1, p1, _⟩ := I2.list sq1
        obtain ⟨us2, rv2, pl2, _⟩ := I2.list sq2
        have la : a < s1.heap.objs.size := p1.lt
        have lb : b < s1.heap.objs.size := pl2.lt
        have hl1 := rv1.length
        refine call_zip_2 p1.isList pl2.isList fun h' hz hTI hTO i1 i2 hsz hk => PyProof.Rows.args_nil ?_
        have up := fun (c : Addr) (o : Obj) (e : s1.heap.get? c = some o) => hk c o e
        refine EvT.call_list_zip (s := { s1 with heap := h' }) (I2.ok.hd gd.calm) (PySem.W.ktu_apart s1.heap.objs.size a b la lb) (by simp; omega) ?_ hz hTI ⟨_, _, hTO⟩ i1 i2 (p1.isList.at fun o e => hk _ o e) (pl2.isList.at fun o e => hk _ o e) fun h2 acc' c' hk2 gS got => ?_
        · show s1.heap.objs.size + 4 < h'.objs.size ∧ s1.heap.objs.size + 2 < h'.objs.size ∧ s1.heap.objs.size + 3 < h'.objs.size ∧ s1.heap.objs.size < h'.objs.size ∧ s1.heap.objs.size + 1 < h'.objs.size ∧ a < h'.objs.size ∧ b < h'.objs.size
          rw [hsz]
          have la : (a : Nat) < s1.heap.objs.size := la
          have lb : (b : Nat) < s1.heap.objs.size := lb
          exact ⟨by omega, by omega, by omega, by omega, by omega, Nat.lt_of_lt_of_le la (Nat.le_add_right _ _), Nat.lt_of_lt_of_le lb (Nat.le_add_right _ _)⟩
        · have gS : h2.get? h'.objs.size = some { cls := .type "list", dict := none, data := .seq acc' c', slots := #[] } := gS
          have hk2 : ∀ c o, s1.heap.get? c = some o → h2.get? c = some o := fun c o e => by
            have hc : (c : Nat) < s1.heap.objs.size := Heap.lt_size e
            refine hk2 c o ?_ ?_ ?_ ?_ (hk c o e)
            · exact Nat.ne_of_lt (Nat.lt_of_lt_of_le hc (Nat.le_add_right _ _))
            · exact Nat.ne_of_lt (Nat.lt_of_lt_of_le hc (Nat.le_add_right _ _))
            · exact Nat.ne_of_lt hc
            · exact Nat.ne_of_lt (Nat.lt_of_lt_of_le hc (Nat.le_add_right _ _))
          have got : EvT.Got (h'.objs.size + 1) us1.toArray us2.toArray h2 acc' (min us1.toArray.size us2.toArray.size) := got
          obtain ⟨Ts, g1, g2, g3, g4, g5⟩ := got
          have I3 : Inv X pins σ H2 { s1 with heap := h2 } := I2.kept (t' := s1.toks) hk2
          have pok : PairsOk (Gx X g) w2 H2 h2 (h'.objs.size + 1) Ts (zipD ds1 ds2) := pairsOk_of ra1 ra2 rv1 rv2 (by rw [g2]; simp) (fun T hT => (g4 T hT).1) fun j T e => by
            obtain ⟨x, y, e1, e2, e3⟩ := g5 j T e
            exact ⟨x, y, by simpa using e1, by simpa using e2, e3⟩
          have hsm : s1.heap.objs.size ≤ h'.objs.size := by rw [hsz]; omega
          obtain ⟨w', H', px, wr', hok', un', rr', eq'⟩ := adopt_pairs (P := X.prog) (W := X.w) (h := s1.heap) (fs := frs X.stack) (by omega) pok g3 wr2 I3.hok fun T hT => I2.hok.fresh (by have := (g4 T hT).1; exact Nat.le_trans hsm (by omega))
          have hS : H' h'.objs.size = none := by
            rw [eq' _ fun hm => by have := (g4 _ hm).1; omega]
            exact I2.hok.fresh hsm
          have hzl : (Ts.map V.ref).length ≤ sizeLine := by rw [List.length_map, g2, sizeLine_eq]; simp; omega
          have tv : Vals (Ts.map V.ref) acc'.toList := by
            rw [g1]
            clear g1 g2 g3 g4 g5 pok rr' hzl un' eq'
            induction Ts with
            | nil => exact .nil
            | cons T Ts ih => exact .cons rfl ih
          have J : Inv X pins σ (upd H' h'.objs.size (.lst (Ts.map V.ref))) { s1 with heap := h2 } :=
            I2.call (ch := []) (un'.trans (Un.laid hk2 hsm hS)) (hok'.laidN (fun _ _ e => e) hS ⟨hzl, acc'.toList, c', tv, gS⟩) I2.bare (fun _ z => nomatch z)
          exact ⟨.ref h'.objs.size, _, J, rfl, pp _ _ _ (px.trans (.new hS)) (Rep.newLst rr' wr' hS)⟩
end
end Ev
namespace Ev
open PySem PySem.Spec PyProof.Rows L2
theorem notStar_of_plain {e : Expr} (h : notStar e = true) : ([e] : List Expr).all notStar = true := by simp [h]
theorem PA.imp' {X : Cx} {e : List Expr} {t t' : TA} (h : PA X e t) (k : t' = t) : PA X e t' := by rw [k]; exact h
section
variable {g : GN} {ck : CK} {con : Nat → Option D} {C : CT} {N : List Str} {k : Nat} {w0 : Wd} {H0 : Hp}
def okPl : IE → Bool
  | .op _ _ _ => false
  | .chn _ _ _ _ _ => false
  | .and2 _ _ => false
  | .or2 _ _ => false
  | .not_ _ => false
  | .ife _ _ _ => false
  | .bor _ => false
  | _ => true
theorem plain_of {sc : Scope} {i : IE} {e : Expr} (h : chkE ck N sc i e = true) (hp : okPl i = true) : plainTest e = true := by
  cases e <;> first | rfl | skip
  · cases i <;> first | exact absurd hp Bool.false_ne_true | (simp [chkE] at h; done)
  · rename_i op _ _
    cases op <;> first | rfl | skip
    cases i <;> first | exact absurd hp Bool.false_ne_true | (simp [chkE] at h; done)
  · cases i <;> first | exact absurd hp Bool.false_ne_true | (simp [chkE] at h; done)
  · cases i <;> first | exact absurd hp Bool.false_ne_true | (simp [chkE] at h; done)
mutual
theorem sE : ∀ (i : IE) {X : Cx} {ck : CK} {sc : Scope} {W : WX} (gd : Good X g ck con C N sc W k) (e : Expr), chkE ck N sc i e = true → PE X e (TEv (Gx X g) w0 H0 W fun env st => evE con C (GN.td g) env i st)
  | .var i, X, ck, sc, W, gd, e, h => by
    simp only [chkE] at h
    split at h <;> first | cases h | skip
    exact r_var gd h
  | .non, X, ck, sc, W, gd, e, h => by
    simp only [chkE] at h
    split at h <;> first | cases h | skip
    exact r_const pe_non fun _ _ => .non
  | .bl b, X, ck, sc, W, gd, e, h => by
    simp only [chkE] at h
    split at h <;> first | cases h | skip
    rw [beq_iff_eq] at h
    subst h
    exact r_const pe_bl fun _ _ => .bl _
  | .int i, X, ck, sc, W, gd, e, h => by
    simp only [chkE] at h
    split at h <;> first | cases h | skip
    · rw [beq_iff_eq] at h
      subst h
      exact r_const pe_int fun _ _ => .int _
    · rw [beq_iff_eq] at h
      subst h
      refine PE.imp (pe_un un_neg pe_int) fun σ H Q ⟨env, w, st, fr, y⟩ => ⟨_, rfl, Yl.ok (a := D.int _) y fr.wr (.int _)⟩
  | .str s, X, ck, sc, W, gd, e, h => by
    simp only [chkE] at h
    split at h <;> first | cases h | skip
    have := eqN_iff.mp h
    subst this
    exact r_const pe_str fun _ _ => .str _
  | .glob j, X, ck, sc, W, gd, e, h => by
    simp only [chkE] at h
    split at h <;> first | cases h | skip
    cases hd : con j with
    | none => exact PE.never fun σ H Q ⟨env, w, st, fr, y⟩ => by dsimp only at y; unfold evE at y; rw [hd] at y; exact y
    | some d =>
      refine r_glob gd h hd fun σ H Q v ⟨env, w, st, fr, y⟩ rp => ?_
      dsimp only at y; unfold evE at y; rw [hd] at y
      exact Yl.ok (a := d) y fr.wr (rp w H)
  | .tup es, X, ck, sc, W, gd, e, h => by
    simp only [chkE] at h
    split at h <;> first | cases h | simp only [Bool.and_eq_true] at h
    exact r_tup (sEs es gd _ h.2) fun env st ds st' q => by rw [evEs_len es q]; exact Nat.le_of_ble_eq_true h.1
  | .lst es, X, ck, sc, W, gd, e, h => by
    simp only [chkE] at h
    split at h <;> first | cases h | simp only [Bool.and_eq_true] at h
    exact r_lst (sEs es gd _ h.2) fun env st ds st' q => by rw [evEs_len es q]; exact Nat.le_of_ble_eq_true h.1
  | .lstH es, X, ck, sc, W, gd, e, h => by
    simp only [chkE] at h
    split at h <;> first | cases h | simp only [Bool.and_eq_true] at h
    exact r_lstH (sEs es gd _ h.2) fun env st ds st' q => by rw [evEs_len es q]; exact Nat.le_of_ble_eq_true h.1
  | .dct ks vs, X, ck, sc, W, gd, e, h => by
    simp only [chkE] at h
    split at h <;> first | cases h | skip
    exact PE.ofOwn n_dct
  | .op o a b, X, ck, sc, W, gd, e, h => by
    simp only [chkE] at h
    split at h <;> first | cases h | simp only [Bool.and_eq_true] at h
    · obtain ⟨⟨⟨ho, hn⟩, h1⟩, h2⟩ := h
      have : o = .idx := by cases o <;> first | rfl | cases ho
      subst this
      exact r_ix gd hn (sE a gd _ h1) (sE b gd _ h2)
    · obtain ⟨⟨ho, h1⟩, h2⟩ := h
      exact r_bin ho (sE a gd _ h1) (sE b gd _ h2)
    · obtain ⟨⟨⟨ho, hn⟩, h1⟩, h2⟩ := h
      exact r_cmp gd ho hn (sE a gd _ h1) (sE b gd _ h2)
  | .chn o o' a b c, X, ck, sc, W, gd, e, h => by
    simp only [chkE] at h
    split at h <;> first | cases h | simp only [Bool.and_eq_true] at h
    obtain ⟨⟨⟨⟨⟨ho, ho'⟩, hn⟩, h1⟩, h2⟩, h3⟩ := h
    exact r_chn gd ho ho' hn (sE a gd _ h1) (sE b gd _ h2) (sE c gd _ h3)
  | .and2 a b, X, ck, sc, W, gd, e, h => by
    simp only [chkE] at h
    split at h <;> first | cases h | simp only [Bool.and_eq_true] at h
    obtain ⟨h1, h2⟩ := h
    split at h2
    · exact r_and (sE a gd _ h1) (pe_one (sE b gd _ h2))
    · exact r_and (sE a gd _ h1) (sE b gd _ h2)
  | .or2 a b, X, ck, sc, W, gd, e, h => by
    simp only [chkE] at h
    split at h <;> first | cases h | simp only [Bool.and_eq_true] at h
    obtain ⟨h1, h2⟩ := h
    split at h2
    · exact r_or (sE a gd _ h1) (pe_one (sE b gd _ h2))
    · exact r_or (sE a gd _ h1) (sE b gd _ h2)
  | .not_ a, X, ck, sc, W, gd, e, h => by
    simp only [chkE] at h
    split at h <;> first | cases h | skip
    exact r_not (sE a gd _ h)
  | .ife c a b, X, ck, sc, W, gd, e, h => by
    simp only [chkE] at h
    split at h <;> first | cases h | simp only [Bool.and_eq_true] at h
    obtain ⟨⟨⟨h0, h1⟩, h2⟩, h3⟩ := h
    exact r_ife (sT c gd _ h1 h0 (sE c gd _ h1)) (sE a gd _ h2) (sE b gd _ h3)
  | .call f es, X, ck, sc, W, gd, e, h => by
    simp only [chkE] at h
    split at h <;> first | cases h | simp only [Bool.and_eq_true] at h
    obtain ⟨⟨h1, h2⟩, h3⟩ := h
    have hs := chkEs_star es h3
    rw [List.all_cons, Bool.and_eq_true] at hs
    exact r_call gd h1 h2 hs.1 hs.2 (sEs es gd _ h3)
  | .bi b es, X, ck, sc, W, gd, e, h => by
    simp only [chkE] at h
    split at h <;> first | cases h | simp only [Bool.and_eq_true] at h
    exact r_bi gd h.1 (chkEs_star es h.2) (sEs es gd _ h.2)
  | .isi T a, X, ck, sc, W, gd, e, h => by
    simp only [chkE] at h
    split at h <;> first | cases h | simp only [Bool.and_eq_true] at h
    exact r_isi gd h.1.1.1 h.1.1.2 h.1.2 (sE a gd _ h.2)
  | .x1 .sset a, X, ck, sc, W, gd, e, h => by
    simp only [chkE] at h
    split at h <;> first | cases h | contradiction | simp only [Bool.and_eq_true] at h
    exact r_sset gd h.1.1.1 h.1.1.2 h.1.2 (sE a gd _ h.2)
  | .x1 .lset a, X, ck, sc, W, gd, e, h => by
    simp only [chkE] at h
    split at h <;> first | cases h | contradiction | simp only [Bool.and_eq_true] at h
    exact r_lset gd h.1.1.1 h.1.1.2 h.1.2 (sE a gd _ h.2)
  | .x2 .index a b, X, ck, sc, W, gd, e, h => by
    simp only [chkE] at h
    split at h <;> first | cases h | contradiction | simp only [Bool.and_eq_true] at h
    obtain ⟨⟨⟨⟨⟨h1, h2⟩, h3⟩, h4⟩, h5⟩, h6⟩ := h
    exact r_index gd h1 h2 h3 h4 (sE a gd _ h5) (sE b gd _ h6)
  | .x2 .zipL a b, X, ck, sc, W, gd, e, h => by
    simp only [chkE] at h
    split at h <;> first | cases h | contradiction | simp only [Bool.and_eq_true] at h
    obtain ⟨⟨⟨⟨⟨h1, h2⟩, h3⟩, h4⟩, h5⟩, h6⟩ := h
    exact r_zipL gd h1 h2 h3 h4 (sE a gd _ h5) (sE b gd _ h6)
  | .x2 (.kget j hits miss) a b, X, ck, sc, W, gd, e, h => by
    simp only [chkE] at h
    split at h <;> first | cases h | contradiction | skip
    rename_i hq
    cases hq
    simp only [Bool.and_eq_true] at h
    obtain ⟨⟨⟨⟨⟨⟨⟨h1, h2⟩, h3⟩, h4⟩, h5⟩, h6⟩, h7⟩, h8⟩ := h
    exact r_kget gd h1 h2 h3 h4 h5 h6 (sE a gd _ h7) (sE b gd _ h8)
  | .dct1 i, X, ck, sc, W, gd, e, h => by
    simp only [chkE] at h
    split at h <;> first | cases h | skip
    exact PE.ofOwn (n_dct1 gd h)
  | .slc a lo hi, X, ck, sc, W, gd, e, h => by
    simp only [chkE] at h
    split at h <;> first | cases h | simp only [Bool.and_eq_true] at h
    rename_i e' l hh p1 p2
    obtain ⟨⟨h1, h2⟩, h3⟩ := h
    refine r_slc (sE a gd _ h1) (il := lo) (ih := hi) ?_ ?_
    · cases l with
      | none => exact p_none h2
      | some x => simp only [Bool.and_eq_true, Bool.not_eq_true'] at h2; exact p_some h2.1 (sE lo gd _ h2.2)
    · cases hh with
      | none => exact p_none h3
      | some x => simp only [Bool.and_eq_true, Bool.not_eq_true'] at h3; exact p_some h3.1 (sE hi gd _ h3.2)
  | .rev a, X, ck, sc, W, gd, e, h => by
    simp only [chkE] at h
    split at h <;> first | cases h | skip
    exact r_rev (sE a gd _ h)
  | .lc own t src elt, X, ck, sc, W, gd, e, h => by
    simp only [chkE] at h
    split at h <;> first | cases h | simp only [Bool.and_eq_true] at h
    obtain ⟨⟨⟨⟨⟨h1, h2⟩, h3⟩, h4⟩, h5⟩, h6⟩ := h
    obtain ⟨wk, hw, hi⟩ := sI src gd _ _ t h2 h5
    exact PE.ofOwn (r_lc gd h1 h2 h3 hw h4 hi fun s H C' cl fp => sE elt (gd.blk s H _ C' cl fp) _ h6)
  | .lcf own t src elt cond, X, ck, sc, W, gd, e, h => by
    simp only [chkE] at h
    split at h <;> first | cases h | simp only [Bool.and_eq_true] at h
    obtain ⟨⟨⟨⟨⟨⟨⟨h1, h2⟩, h3⟩, h4⟩, h5⟩, h6⟩, h7⟩, h8⟩ := h
    obtain ⟨wk, hw, hi⟩ := sI src gd _ _ t h2 h5
    exact PE.ofOwn (r_lcf gd h1 h2 h3 hw h4 hi (fun s H C' cl fp => sE elt (gd.blk s H _ C' cl fp) _ h6) fun s H C' cl fp => sT cond (gd.blk s H _ C' cl fp) _ h8 h7 (sE cond (gd.blk s H _ C' cl fp) _ h8))
  | .dc own t src kk v, X, ck, sc, W, gd, e, h => by
    simp only [chkE] at h
    split at h <;> first | cases h | simp only [Bool.and_eq_true] at h
    obtain ⟨⟨⟨⟨⟨⟨h1, h2⟩, h3⟩, h4⟩, h5⟩, h6⟩, h7⟩ := h
    obtain ⟨wk, hw, hi⟩ := sI src gd _ _ t h2 h5
    exact PE.ofOwn (r_dc gd h1 h2 h3 hw h4 hi (fun s H C' cl fp => sE kk (gd.blk s H _ C' cl fp) _ h6) fun s H C' cl fp => sE v (gd.blk s H _ C' cl fp) _ h7)
  | .skey a, X, ck, sc, W, gd, e, h => by
    simp only [chkE] at h
    split at h <;> first | cases h | simp only [Bool.and_eq_true] at h
    obtain ⟨⟨⟨⟨⟨⟨⟨h1, h2⟩, h3⟩, h4⟩, h5⟩, h6⟩, h7⟩, h8⟩ := h
    exact r_skey gd h1 h2 h3 h4 h5 h6 h7 (sE a gd _ h8)
  | .told f a, X, ck, sc, W, gd, e, h => by
    simp only [chkE] at h
    split at h <;> first | cases h | simp only [Bool.and_eq_true] at h
    obtain ⟨⟨⟨⟨h1, h2⟩, h3⟩, h4⟩, h5⟩ := h
    exact r_told gd h1 h2 h3 h4 fun A outer s H E fa c' gd' => sE a gd' _ h5
  | .bor a, X, ck, sc, W, gd, e, h => by
    simp only [chkE, Bool.and_eq_true] at h
    exact r_bor (fun env st d st' q => pure_st a h.1 q) (sP gd a e h.1 h.2)
  | .idxO i b, X, ck, sc, W, gd, e, h => by
    simp only [chkE] at h
    split at h <;> first | cases h | simp only [Bool.and_eq_true] at h
    exact r_idxO gd h.1.1 h.1.2 (sE b gd _ h.2)
theorem sEs : ∀ (is : IEs) {X : Cx} {ck : CK} {sc : Scope} {W : WX} (gd : Good X g ck con C N sc W k) (es : List Expr), chkEs ck N sc is es = true → PA X es (TAv (Gx X g) w0 H0 W fun env st => evEs con C (GN.td g) env is st)
  | .nil, X, ck, sc, W, gd, es, h => by
    cases es with
    | nil => exact PA.imp pa_nil fun σ H Q ⟨env, w, st, fr, y⟩ => Yl.ok (a := []) y fr.wr .nil
    | cons e es => simp [chkEs] at h
  | .cons i is, X, ck, sc, W, gd, es, h => by
    cases es with
    | nil => simp [chkEs] at h
    | cons e es =>
      simp only [chkEs, Bool.and_eq_true] at h
      refine PA.imp (pa_cons (sE i gd e h.1.2) (sEs is gd es h.2) (star_ok h.1.1 _ _)) fun σ H Q ⟨env, w, st, fr, y⟩ => ?_
      refine T.seq fr y fun d v w1 H1 st1 _ fr1 _ r1 y1 => ?_
      refine T.seq fr1 y1 fun ds vs w2 H2 st2 _ fr2 x2 r2 y2 => ?_
      exact Yl.ok (a := d :: ds) y2 fr2.wr (.cons (r1.mono (x2.le fr1.wr)) r2)
theorem sT : ∀ (i : IE) {X : Cx} {ck : CK} {sc : Scope} {W : WX} (gd : Good X g ck con C N sc W k) (e : Expr), chkE ck N sc i e = true → okT i = true → PE X e (TEv (Gx X g) w0 H0 W fun env st => evE con C (GN.td g) env i st) → PT X e (TBv (Gx X g) w0 H0 W fun env st => evE con C (GN.td g) env i st)
  | .op o a b, X, ck, sc, W, gd, e, h, ho, he => by
    simp only [chkE] at h
    split at h <;> first | cases h | simp only [Bool.and_eq_true] at h
    · exact t_val rfl he
    · exact t_val rfl he
    · obtain ⟨⟨⟨ho, hn⟩, h1⟩, h2⟩ := h
      exact t_cmp gd ho hn (sE a gd _ h1) (sE b gd _ h2)
  | .chn o o' a b c, X, ck, sc, W, gd, e, h, ho, he => by
    simp only [chkE] at h
    split at h <;> first | cases h | simp only [Bool.and_eq_true] at h
    obtain ⟨⟨⟨⟨⟨ho, ho'⟩, hn⟩, h1⟩, h2⟩, h3⟩ := h
    exact t_chn gd ho ho' hn (sE a gd _ h1) (sE b gd _ h2) (sE c gd _ h3)
  | .and2 a b, X, ck, sc, W, gd, e, h, ho, he => by
    simp only [chkE] at h
    split at h <;> first | cases h | simp only [Bool.and_eq_true] at h
    simp only [okT, Bool.and_eq_true] at ho
    obtain ⟨h1, h2⟩ := h
    split at h2
    · exact (w_and (sT a gd _ h1 ho.1 (sE a gd _ h1)) (pw_and1 (sT b gd _ h2 ho.2 (sE b gd _ h2)))).pt
    · exact (w_and (sT a gd _ h1 ho.1 (sE a gd _ h1)) (sW b gd _ _ _ h2 ho.2)).pt
  | .or2 a b, X, ck, sc, W, gd, e, h, ho, he => by
    simp only [chkE] at h
    split at h <;> first | cases h | simp only [Bool.and_eq_true] at h
    simp only [okT, Bool.and_eq_true] at ho
    obtain ⟨h1, h2⟩ := h
    split at h2
    · exact (w_or (sT a gd _ h1 ho.1 (sE a gd _ h1)) (pw_or1 (sT b gd _ h2 ho.2 (sE b gd _ h2)))).pt
    · exact (w_or (sT a gd _ h1 ho.1 (sE a gd _ h1)) (sW b gd _ _ _ h2 ho.2)).pt
  | .not_ a, X, ck, sc, W, gd, e, h, ho, he => by
    simp only [chkE] at h
    split at h <;> first | cases h | skip
    exact t_not (sT a gd _ h ho (sE a gd _ h))
  | .bor a, X, ck, sc, W, gd, e, h, ho, he => by
    by_cases hp : plainTest e = true
    · exact t_val hp he
    · simp only [chkE, Bool.and_eq_true] at h
      cases a with
      | op o x y =>
        have hp1 := h.1
        simp only [pureE, Bool.and_eq_true] at hp1
        have h2 := h.2
        simp only [chkE] at h2
        split at h2 <;> first | cases h2 | simp only [Bool.and_eq_true] at h2
        · exact absurd rfl hp
        · exact absurd rfl hp
        · obtain ⟨⟨⟨ho, hn⟩, h3⟩, h4⟩ := h2
          exact t_bor (ea := fun env st => evE con C (GN.td g) env (.op o x y) st) (fun env st d st' q => pure_st (.op o x y) h.1 q) (u_cmpT (ea := fun env st => evE con C (GN.td g) env x st) (eb := fun env st => evE con C (GN.td g) env y st) gd (fun env st d st' q => pure_st x hp1.1 q) (fun env st d st' q => pure_st y hp1.2 q) ho hn (sP gd x _ hp1.1 h3) (sP gd y _ hp1.2 h4))
      | _ => exact absurd (plain_of h.2 (by first | rfl | exact absurd h.1 Bool.false_ne_true)) hp
  | .ife c a b, X, ck, sc, W, gd, e, h, ho, he => by cases ho
  | .var _, X, ck, sc, W, gd, e, h, ho, he => t_val (plain_of h rfl) he
  | .non, X, ck, sc, W, gd, e, h, ho, he => t_val (plain_of h rfl) he
  | .bl _, X, ck, sc, W, gd, e, h, ho, he => t_val (plain_of h rfl) he
  | .int _, X, ck, sc, W, gd, e, h, ho, he => t_val (plain_of h rfl) he
  | .str _, X, ck, sc, W, gd, e, h, ho, he => t_val (plain_of h rfl) he
  | .glob _, X, ck, sc, W, gd, e, h, ho, he => t_val (plain_of h rfl) he
  | .tup _, X, ck, sc, W, gd, e, h, ho, he => t_val (plain_of h rfl) he
  | .lst _, X, ck, sc, W, gd, e, h, ho, he => t_val (plain_of h rfl) he
  | .lstH _, X, ck, sc, W, gd, e, h, ho, he => t_val (plain_of h rfl) he
  | .dct _ _, X, ck, sc, W, gd, e, h, ho, he => t_val (plain_of h rfl) he
  | .call _ _, X, ck, sc, W, gd, e, h, ho, he => t_val (plain_of h rfl) he
  | .bi _ _, X, ck, sc, W, gd, e, h, ho, he => t_val (plain_of h rfl) he
  | .isi _ _, X, ck, sc, W, gd, e, h, ho, he => t_val (plain_of h rfl) he
  | .slc _ _ _, X, ck, sc, W, gd, e, h, ho, he => t_val (plain_of h rfl) he
  | .rev _, X, ck, sc, W, gd, e, h, ho, he => t_val (plain_of h rfl) he
  | .lc _ _ _ _, X, ck, sc, W, gd, e, h, ho, he => t_val (plain_of h rfl) he
  | .lcf _ _ _ _ _, X, ck, sc, W, gd, e, h, ho, he => t_val (plain_of h rfl) he
  | .dc _ _ _ _ _, X, ck, sc, W, gd, e, h, ho, he => t_val (plain_of h rfl) he
  | .skey _, X, ck, sc, W, gd, e, h, ho, he => t_val (plain_of h rfl) he
  | .told _ _, X, ck, sc, W, gd, e, h, ho, he => t_val (plain_of h rfl) he
  | .x1 _ _, X, ck, sc, W, gd, e, h, ho, he => t_val (plain_of h rfl) he
  | .x2 _ _ _, X, ck, sc, W, gd, e, h, ho, he => t_val (plain_of h rfl) he
  | .dct1 _, X, ck, sc, W, gd, e, h, ho, he => t_val (plain_of h rfl) he
  | .idxO _ _, X, ck, sc, W, gd, e, h, ho, he => t_val (plain_of h rfl) he
theorem sW : ∀ (i : IE) {X : Cx} {ck : CK} {sc : Scope} {W : WX} (gd : Good X g ck con C N sc W k) (op : BoolOp) (es : List Expr) (pos : Pos), chkE ck N sc i (.BoolOp op es pos) = true → okT i = true → PW X (.BoolOp op es pos) (TBv (Gx X g) w0 H0 W fun env st => evE con C (GN.td g) env i st)
  | .and2 a b, X, ck, sc, W, gd, op, es, pos, h, ho => by
    simp only [chkE] at h
    split at h <;> first | cases h | skip
    rename_i l m r pos' heq
    cases heq
    simp only [Bool.and_eq_true] at h
    simp only [okT, Bool.and_eq_true] at ho
    obtain ⟨h1, h2⟩ := h
    split at h2
    · exact w_and (sT a gd _ h1 ho.1 (sE a gd _ h1)) (pw_and1 (sT b gd _ h2 ho.2 (sE b gd _ h2)))
    · exact w_and (sT a gd _ h1 ho.1 (sE a gd _ h1)) (sW b gd _ _ _ h2 ho.2)
  | .or2 a b, X, ck, sc, W, gd, op, es, pos, h, ho => by
    simp only [chkE] at h
    split at h <;> first | cases h | skip
    rename_i l m r pos' heq
    cases heq
    simp only [Bool.and_eq_true] at h
    simp only [okT, Bool.and_eq_true] at ho
    obtain ⟨h1, h2⟩ := h
    split at h2
    · exact w_or (sT a gd _ h1 ho.1 (sE a gd _ h1)) (pw_or1 (sT b gd _ h2 ho.2 (sE b gd _ h2)))
    · exact w_or (sT a gd _ h1 ho.1 (sE a gd _ h1)) (sW b gd _ _ _ h2 ho.2)
  | .bor a, X, ck, sc, W, gd, op, es, pos, h, ho => by
    simp only [chkE, Bool.and_eq_true] at h
    cases a <;> first | exact absurd h.1 Bool.false_ne_true | (simp [chkE] at h; done)
  | .op _ _ _, X, ck, sc, W, gd, op, es, pos, h, ho => by simp [chkE] at h
  | .chn _ _ _ _ _, X, ck, sc, W, gd, op, es, pos, h, ho => by simp [chkE] at h
  | .not_ _, X, ck, sc, W, gd, op, es, pos, h, ho => by simp [chkE] at h
  | .ife _ _ _, X, ck, sc, W, gd, op, es, pos, h, ho => by simp [chkE] at h
  | .var _, X, ck, sc, W, gd, op, es, pos, h, ho => by simp [chkE] at h
  | .non, X, ck, sc, W, gd, op, es, pos, h, ho => by simp [chkE] at h
  | .bl _, X, ck, sc, W, gd, op, es, pos, h, ho => by simp [chkE] at h
  | .int _, X, ck, sc, W, gd, op, es, pos, h, ho => by simp [chkE] at h
  | .str _, X, ck, sc, W, gd, op, es, pos, h, ho => by simp [chkE] at h
  | .glob _, X, ck, sc, W, gd, op, es, pos, h, ho => by simp [chkE] at h
  | .tup _, X, ck, sc, W, gd, op, es, pos, h, ho => by simp [chkE] at h
  | .lst _, X, ck, sc, W, gd, op, es, pos, h, ho => by simp [chkE] at h
  | .lstH _, X, ck, sc, W, gd, op, es, pos, h, ho => by simp [chkE] at h
  | .dct _ _, X, ck, sc, W, gd, op, es, pos, h, ho => by simp [chkE] at h
  | .call _ _, X, ck, sc, W, gd, op, es, pos, h, ho => by simp [chkE] at h
  | .bi _ _, X, ck, sc, W, gd, op, es, pos, h, ho => by simp [chkE] at h
  | .isi _ _, X, ck, sc, W, gd, op, es, pos, h, ho => by simp [chkE] at h
  | .slc _ _ _, X, ck, sc, W, gd, op, es, pos, h, ho => by simp [chkE] at h
  | .rev _, X, ck, sc, W, gd, op, es, pos, h, ho => by simp [chkE] at h
  | .lc _ _ _ _, X, ck, sc, W, gd, op, es, pos, h, ho => by simp [chkE] at h
  | .lcf _ _ _ _ _, X, ck, sc, W, gd, op, es, pos, h, ho => by simp [chkE] at h
  | .dc _ _ _ _ _, X, ck, sc, W, gd, op, es, pos, h, ho => by simp [chkE] at h
  | .skey _, X, ck, sc, W, gd, op, es, pos, h, ho => by simp [chkE] at h
  | .told _ _, X, ck, sc, W, gd, op, es, pos, h, ho => by simp [chkE] at h
  | .x1 _ _, X, ck, sc, W, gd, op, es, pos, h, ho => by simp [chkE] at h
  | .x2 _ _ _, X, ck, sc, W, gd, op, es, pos, h, ho => by simp [chkE] at h
  | .dct1 _, X, ck, sc, W, gd, op, es, pos, h, ho => by simp [chkE] at h
  | .idxO _ _, X, ck, sc, W, gd, op, es, pos, h, ho => by simp [chkE] at h
theorem sI : ∀ (i : IS) {X : Cx} {ck : CK} {sc : Scope} {W : WX} (gd : Good X g ck con C N sc W k) {sc' : Scope} {fb : Str → Bool} (tg e : Expr) (t : Tgt), chkG N sc' fb t tg = true → chkI ck N sc i tg e = true → ∃ wk : Bool, (wk = true → isTp t = true) ∧ PI X tg e (TIv (Gx X g) w0 H0 W wk fun env st => evI con C (GN.td g) env i st)
  | .seq a, X, ck, sc, W, gd, sc', fb, tg, e, t, hg, h => by
    simp only [chkI] at h
    exact ⟨false, (fun z => nomatch z), PI.ofLe (i_seq (sE a gd e h))⟩
  | .enum a, X, ck, sc, W, gd, sc', fb, tg, e, t, hg, h => by
    simp only [chkI] at h
    split at h <;> first | cases h | simp only [Bool.and_eq_true] at h
    refine ⟨true, fun _ => ?_, PI.ofLe (i_enum gd h.1.1 h.1.2 (sE a gd _ h.2))⟩
    cases t with
    | nm i => simp [chkG] at hg
    | tp ts => rfl
  | .zip a b, X, ck, sc, W, gd, sc', fb, tg, e, t, hg, h => by
    simp only [chkI] at h
    split at h <;> first | cases h | simp only [Bool.and_eq_true] at h
    obtain ⟨⟨⟨⟨h1, h2⟩, h3⟩, h4⟩, h5⟩ := h
    refine ⟨true, fun _ => ?_, PI.ofLe (i_zip gd h1 h2 h3 (sE a gd _ h4) (sE b gd _ h5))⟩
    cases t with
    | nm i => simp [chkG] at hg
    | tp ts => rfl
  | .range a, X, ck, sc, W, gd, sc', fb, tg, e, t, hg, h => by
    simp only [chkI] at h
    split at h <;> first | cases h | simp only [Bool.and_eq_true] at h
    exact ⟨false, (fun z => nomatch z), PI.ofLe (i_range gd h.1.1 h.1.2 (sE a gd _ h.2))⟩
  | .own i, X, ck, sc, W, gd, sc', fb, tg, e, t, hg, h => by
    simp only [chkI] at h
    split at h <;> first | cases h | skip
    exact ⟨false, (fun z => nomatch z), i_own gd h⟩
end
theorem sIL : ∀ (i : IS) {X : Cx} {ck : CK} {sc : Scope} {W : WX} (gd : Good X g ck con C N sc W k) {sc' : Scope} {fb : Str → Bool} (tg e : Expr) (t : Tgt), chkG N sc' fb t tg = true → chkI ck N sc i tg e = true → (match i with | .own _ => false | _ => true) = true → ∃ wk : Bool, (wk = true → isTp t = true) ∧ PI X tg e (TIvL (Gx X g) w0 H0 W wk fun env st => evI con C (GN.td g) env i st)
  | .seq a, X, ck, sc, W, gd, sc', fb, tg, e, t, hg, h, _ => by
    simp only [chkI] at h
    exact ⟨false, (fun z => nomatch z), i_seq (sE a gd e h)⟩
  | .enum a, X, ck, sc, W, gd, sc', fb, tg, e, t, hg, h, _ => by
    simp only [chkI] at h
    split at h <;> first | cases h | simp only [Bool.and_eq_true] at h
    refine ⟨true, fun _ => ?_, i_enum gd h.1.1 h.1.2 (sE a gd _ h.2)⟩
    cases t with
    | nm i => simp [chkG] at hg
    | tp ts => rfl
  | .zip a b, X, ck, sc, W, gd, sc', fb, tg, e, t, hg, h, _ => by
    simp only [chkI] at h
    split at h <;> first | cases h | simp only [Bool.and_eq_true] at h
    obtain ⟨⟨⟨⟨h1, h2⟩, h3⟩, h4⟩, h5⟩ := h
    refine ⟨true, fun _ => ?_, i_zip gd h1 h2 h3 (sE a gd _ h4) (sE b gd _ h5)⟩
    cases t with
    | nm i => simp [chkG] at hg
    | tp ts => rfl
  | .range a, X, ck, sc, W, gd, sc', fb, tg, e, t, hg, h, _ => by
    simp only [chkI] at h
    split at h <;> first | cases h | simp only [Bool.and_eq_true] at h
    exact ⟨false, (fun z => nomatch z), i_range gd h.1.1 h.1.2 (sE a gd _ h.2)⟩
  | .own i, X, ck, sc, W, gd, sc', fb, tg, e, t, hg, h, hn => by cases hn
end
end Ev
namespace Ev
open PySem PySem.Spec PyProof.Rows L2
/-! ### statements -/
mutual
inductive SI where
  | set (t : Tgt) (e : IE)
  | setO (i : Nat) (e : IE)               -- a fresh list or dict, one's own
  | par (ts : List Nat) (es : List (Bool × IE))   -- a, b = x, y; true: fresh, own
  | app (i : Nat) (e : IE)
  | pop (t i : Nat)
  | put (i : Nat) (k v : IE)
  | putH (o k v : IE)
  | exp (e : IE)
  | ret (e : IE)
  | raise (c : Nat)
  | iff (c : IE) (a b : SS)
  | for_ (t : Tgt) (s : IS) (b : SS)
  | whl (c : IE) (b : SS)
  | frz (i : Nat)
inductive SS where
  | nil
  | cons (s : SI) (r : SS)
end
inductive RS where
  | nx (env : EvEnv) (st : HSt) | rt (d : D) (st : HSt) | exc (c : Nat) (st : HSt) | bad
def RS.bind : RS → (EvEnv → HSt → RS) → RS
  | .nx env st, f => f env st
  | r, _ => r
def R.bindS {α : Type} : R α → (α → HSt → RS) → RS
  | .ok a s, f => f a s
  | .exc c s, _ => .exc c s
  | .bad, _ => .bad
@[simp] theorem R.bindS_ok {α : Type} (a : α) (s : HSt) (f : α → HSt → RS) : (R.ok a s).bindS f = f a s := rfl
@[simp] theorem RS.bind_nx (e : EvEnv) (s : HSt) (f : EvEnv → HSt → RS) : (RS.nx e s).bind f = f e s := rfl
@[simp] theorem RS.bind_rt (d : D) (s : HSt) (f : EvEnv → HSt → RS) : (RS.rt d s).bind f = .rt d s := rfl
@[simp] theorem RS.bind_exc (c : Nat) (s : HSt) (f : EvEnv → HSt → RS) : (RS.exc c s).bind f = .exc c s := rfl
def isOwnD : D → Bool
  | .lst _ => true
  | .dk _ _ => true
  | _ => false
def putO (d k v : D) : Option D := match d with
  | .lst ds => (match k with
    | .int i => (idxN ds.length i).map fun j => .lst (ds.set j v)
    | _ => none)
  | .dk ks vs => if ks.length < line then (keyD k).map fun k => .dk (putD ks vs k v).1 (putD ks vs k v).2 else none
  | _ => none
def putHD (h : HD) (k v : D) : Option HD := match h with
  | .lst ds => (match k with
    | .int i => (idxN ds.length i).map fun j => .lst (ds.set j v)
    | _ => none)
  | .dk ks vs => if ks.length < line then (keyD k).map fun k => .dk (putD ks vs k v).1 (putD ks vs k v).2 else none
  | _ => none
def evFor (f : EvEnv → HSt → RS) (t : Tgt) : List D → EvEnv → HSt → RS
  | [], env, st => .nx env st
  | d :: ds, env, st => match bindT env t d with
    | none => .bad
    | some env' => (f env' st).bind fun env st => evFor f t ds env st
def evWhl (c : EvEnv → HSt → R D) (f : EvEnv → HSt → RS) : Nat → EvEnv → HSt → RS
  | 0, _, _ => .bad
  | n + 1, env, st => (c env st).bindS fun b st => match b with
    | .bl true => (f env st).bind fun env st => evWhl c f n env st
    | .bl false => .nx env st
    | _ => .bad
def setSl (env : EvEnv) (i : Nat) (o : Bool) (d : D) : RS → RS := fun r => r
/-- several values, some of them own -/
def evPar (ev : IE → HSt → R D) : List (Bool × IE) → HSt → R (List (Bool × D))
  | [], st => .ok [] st
  | (o, e) :: es, st => (ev e st).bind fun d st => if o && !isOwnD d then .bad else (evPar ev es st).bind fun ds st => .ok ((o, d) :: ds) st
def setPar : EvEnv → List Nat → List (Bool × D) → Option EvEnv
  | env, [], [] => some env
  | env, t :: ts, d :: ds => if t < env.length then setPar (env.set t (some d)) ts ds else none
  | _, _, _ => none
section
variable (con : Nat → Option D) (C : CT) (TD : Nat → Nat → Option D) (fu : Nat)
mutual
def evS (env : EvEnv) : SI → HSt → RS
  | .set t e, st => (evE con C TD env e st).bindS fun d st => match bindT env t d with
    | some env' => .nx env' st
    | none => .bad
  | .setO i e, st => (evE con C TD env e st).bindS fun d st => if isOwnD d && decide (i < env.length) then .nx (env.set i (some (true, d))) st else .bad
  | .par ts es, st => (evPar (fun e st => evE con C TD env e st) es st).bindS fun ds st => match setPar env ts ds with
    | some env' => .nx env' st
    | none => .bad
  | .app i e, st => match env[i]? with
    | some (some (true, .lst ds)) => (evE con C TD env e st).bindS fun d st => if ds.length < line then .nx (env.set i (some (true, .lst (ds ++ [d])))) st else .bad
    | _ => .bad
  | .pop t i, st => match env[i]? with
    | some (some (true, .lst ds)) => (match ds.getLast? with
      | some d => if decide (t < env.length) && !(Nat.beq t i) then .nx ((env.set i (some (true, .lst ds.dropLast))).set t (some (false, d))) st else .bad
      | none => .bad)
    | _ => .bad
  | .put i k v, st => (evE con C TD env v st).bindS fun v st => match env[i]? with
    | some (some (true, d)) => (evE con C TD env k st).bindS fun k st => match putO d k v with
      | some d' => .nx (env.set i (some (true, d'))) st
      | none => .bad
    | _ => .bad
  | .putH o k v, st => (evE con C TD env v st).bindS fun v st => (evE con C TD env o st).bindS fun o st => (evE con C TD env k st).bindS fun k st => match o with
    | .hnd n => (match st[n]? with
      | some h => (match putHD h k v with
        | some h' => .nx env (st.set n h')
        | none => .bad)
      | none => .bad)
    | _ => .bad
  | .exp e, st => (evE con C TD env e st).bindS fun _ st => .nx env st
  | .ret e, st => (evE con C TD env e st).bindS fun d st => .rt d st
  | .raise c, st => .exc c st
  | .iff c a b, st => (evE con C TD env c st).bindS fun d st => match d with
    | .bl true => evSS env a st
    | .bl false => evSS env b st
    | _ => .bad
  | .for_ t s b, st => (evI con C TD env s st).bindS fun ds st => evFor (fun env st => evSS env b st) t ds env st
  | .whl c b, st => evWhl (fun env st => evE con C TD env c st) (fun env st => evSS env b st) fu env st
  | .frz i, st => match env[i]? with
    | some (some (_, d)) => .nx (env.set i (some (false, d))) st
    | _ => .nx env st
def evSS (env : EvEnv) : SS → HSt → RS
  | .nil, st => .nx env st
  | .cons s r, st => (evS env s st).bind fun env st => evSS env r st
end
end
/-! ### the text says so -/
/-- what makes a list or dict of its own -/
def freshE : IE → Bool
  | .lst _ => true
  | .lc _ _ _ _ => true
  | .lcf _ _ _ _ _ => true
  | .dc _ _ _ _ _ => true
  | .dct .nil .nil => true
  | .dct1 _ => true
  | _ => false
def notComp : Expr → Bool
  | .ListComp _ _ _ _ => false
  | .SetComp _ _ _ _ => false
  | .DictComp _ _ _ _ _ => false
  | _ => true
def compScope : Expr → Option Scope
  | .ListComp _ _ s _ => some s
  | .SetComp _ _ s _ => some s
  | .DictComp _ _ _ s _ => some s
  | _ => none
/-- name = comprehension, swapped into the name at once -/
def swapB (sc : Scope) (s : Scope) (t : Str) (l1 l2 : Nat) : Bool :=
  isLocal (lookN sc.names t) && Nat.beq l1 l2 && !(s.names.any fun p => seq p.1 t && (match p.2 with | .local => true | .cell => true | _ => false))
def isFun (sc : Scope) : Bool := match sc.kind with
  | .function => true
  | _ => false
def lineOf (e : Expr) : Nat := e.pos.line
def notTuple : Expr → Bool
  | .Tuple _ _ _ => false
  | _ => true
def tgPlain : Expr → Expr → Bool
  | .Name _ _, _ => true
  | .Tuple _ _ _, v => notTuple v
  | _, _ => false
/-- a value that goes into a name as it is: no comprehension that is swapped -/
def noSwap (sc : Scope) (v tg : Expr) : Bool := match compScope v with
  | none => true
  | some s => match tg with
    | .Name t p => !(swapB sc s t p.line v.pos.line)
    | _ => false
def nmLoc (sc : Scope) : Expr → Option (Str × Pos)
  | .Name x p => if isLocal (lookN sc.names x) then some (x, p) else none
  | _ => none
/-- a, b = x, y: are the stores swapped? none: not sure -/
def parKind (sc : Scope) (ts vs : List Expr) : Option Bool :=
  if vs.all notStar && isFun sc then
    match ts with
    | [.Name x px, .Name y py] =>
      if isLocal (lookN sc.names x) && isLocal (lookN sc.names y) then
        (if Nat.beq py.line px.line && !(seq x y) && !(vs.all (foldedForSure 8)) && !(vs.all (constantsAlone 8)) then some true else none)
      else some false
    | [.Name x px, .Name y py, .Name z pz] =>
      if isLocal (lookN sc.names x) && isLocal (lookN sc.names y) && isLocal (lookN sc.names z) then
        (if Nat.beq py.line px.line && Nat.beq pz.line px.line && !(seq x y) && !(seq x z) && !(seq y z) && !(vs.all (foldedForSure 8)) && !(vs.all (constantsAlone 8)) then some true else none)
      else some false
    | _ => none
  else none
def isNms (N : List Str) (sc : Scope) : List Nat → List Expr → Bool
  | [], [] => true
  | i :: is, .Name x _ :: es => slotB N i x && (isLocal (lookN sc.names x) || isCell (lookN sc.names x)) && isNms N sc is es
  | _, _ => false
def distinctN : List Nat → Bool
  | [] => true
  | i :: is => is.all (fun j => !(Nat.beq i j)) && distinctN is
structure CKS extends CK where
  xhas : Nat → Bool
section
variable (ck : CKS) (N : List Str) (sc : Scope)
def chkPs : List (Bool × IE) → List Expr → Bool
  | [], [] => true
  | (o, i) :: is, e :: es => (!o || freshE i) && notStar e && chkE ck.toCK N sc i e && chkPs is es
  | _, _ => false
def storeB (i : Nat) (x : Str) : Bool := slotB N i x && (isLocal (lookN sc.names x) || isCell (lookN sc.names x))
def isFrz : SI → Bool
  | .frz _ => true
  | _ => false
mutual
def chkS (i : SI) (s : Stmt) : Bool := match i, s with
  | .set t e, s => match s with
    | .Assign [tg] v _ => chkG N sc (fun x => isCell (lookN sc.names x)) t tg && tgPlain tg v && noSwap sc v tg && chkE ck.toCK N sc e v
    | _ => false
  | .setO i e, s => match s with
    | .Assign [.Name x px] v p => freshE e && storeB N sc i x && chkE ck.toCK N sc e v && (match v with
      | .ListComp _ _ s _ => isFun sc && Nat.beq p.line p.line
      | v => noSwap sc v (.Name x px))
    | _ => false
  | .par ts es, s => match s with
    | .Assign [.Tuple tl _ _] (.Tuple vl _ _) _ => isNms N sc ts tl && distinctN ts && chkPs ck N sc es vl && (parKind sc tl vl).isSome && Nat.beq vl.length tl.length
    | _ => false
  | .app i e, s => match s with
    | .Expr (.Call (.Attribute (.Name x _) m ap) [a] [] cp) _ => varB N sc i x && seq m "append" && (ap.endLine == cp.line) && notStar a && chkE ck.toCK N sc e a
    | _ => false
  | .pop t i, s => match s with
    | .Assign [.Name y _] (.Call (.Attribute (.Name x _) m ap) [] [] cp) _ => storeB N sc t y && varB N sc i x && seq m "pop" && (ap.endLine == cp.line)
    | _ => false
  | .put i k v, s => match s with
    | .Assign [.Subscript (.Name x _) j _] a _ => varB N sc i x && notSlice j && notComp a && chkE ck.toCK N sc k j && chkE ck.toCK N sc v a
    | _ => false
  | .putH o k v, s => match s with
    | .Assign [.Subscript b j _] a _ => notSlice j && notComp a && chkE ck.toCK N sc o b && chkE ck.toCK N sc k j && chkE ck.toCK N sc v a
    | _ => false
  | .exp e, s => match s with
    | .Expr a _ => notComp a && chkE ck.toCK N sc e a
    | _ => false
  | .ret e, s => match s with
    | .Return (some a) _ => chkE ck.toCK N sc e a
    | .Return none _ => (match e with | .non => true | _ => false)
    | _ => false
  | .raise c, s => match s with
    | .Raise (some (.Call (.Name x _) [.Constant (.str _) _ _] [] _)) none _ => ck.xhas c && globB sc x (ck.xn c)
    | _ => false
  | .iff c a b, s => match s with
    | .If t p q _ => okT c && chkE ck.toCK N sc c t && chkSS a p && chkSS b q
    | _ => false
  | .for_ t src b, s => match s with
    | .For tg it body [] _ => chkG N sc (fun x => isCell (lookN sc.names x)) t tg && notSet it && (match src with | .own _ => false | _ => true) && chkI ck.toCK N sc src tg it && chkSS b body
    | _ => false
  | .whl c b, s => match s with
    | .While t body [] _ => okT c && chkE ck.toCK N sc c t && chkSS b body
    | _ => false
  | .frz _, _ => false
termination_by structural i
def chkSS (i : SS) (ss : List Stmt) : Bool := match i, ss with
  | .nil, ss => ss.isEmpty
  | .cons i is, ss => if isFrz i then chkSS is ss else match ss with
    | s :: ss => chkS i s && chkSS is ss
    | [] => false
termination_by structural i
end
end
end Ev
namespace Ev
open PySem PySem.Spec PyProof.Rows L2
section
variable (G : GC) (w0 : Wd) (H0 : Hp) (W : WX)
def YlS (w : Wd) (H : Hp) (r : RS) (D : Ends) : Prop := match r with
  | .nx env' st' => ∀ σ' w' H', FR G w0 H0 env' σ' w' H' st' → Le w H w' H' → D.nx σ' H'
  | .rt d st' => ∀ w' H' v, Ext w0 H0 w' H' → WRel G w' H' st' → Rep G w' H' d v → D.rt v H'
  | .exc c st' => ∀ σ' w' H', Ext w0 H0 w' H' → WRel G w' H' st' → W (.ref (G.cls c)) none σ' H'
  | .bad => False
def TSv (ev : EvEnv → HSt → RS) : TS := fun D σ H => ∃ env w st, FR G w0 H0 env σ w H st ∧ YlS G w0 H0 W w H (ev env st) D
end
section
variable {G : GC} {w0 : Wd} {H0 : Hp} {W : WX} {α β : Type} {rel : Wd → Hp → α → β → Prop} {env : EvEnv} {σ : L2.St} {w w1 w2 : Wd} {H H1 H2 : Hp} {st st1 : HSt} {Dd : Ends}
theorem Le.trans (a : Le w H w1 H1) (b : Le w1 H1 w2 H2) : Le w H w2 H2 := ⟨fun x h => b.F x (a.F x h), fun x h => (b.eq x (a.F x h)).trans (a.eq x h), fun n x h => b.L n x (a.L n x h)⟩
theorem YlS.le {r : RS} (y : YlS G w0 H0 W w H r Dd) (l : Le w H w1 H1) : YlS G w0 H0 W w1 H1 r Dd := by
  cases r with
  | nx e s => exact fun σ' w' H' f l2 => y σ' w' H' f (l.trans l2)
  | rt d s => exact y
  | exc c s => exact y
  | bad => exact y
theorem YlS.nx {env' : EvEnv} {σ' : L2.St} (y : YlS G w0 H0 W w H (.nx env' st1) Dd) (f : FR G w0 H0 env' σ' w1 H1 st1) (l : Le w H w1 H1) : Dd.nx σ' H1 := y σ' w1 H1 f l
/-- an expression within a statement -/
theorem S.seq {ea : EvEnv → HSt → R α} {f : α → HSt → RS} {P : β → Hp → Prop} (fr : FR G w0 H0 env σ w H st) (y : YlS G w0 H0 W w H ((ea env st).bindS f) Dd)
    (k : ∀ a b w1 H1 st1, ea env st = .ok a st1 → FR G w0 H0 env σ w1 H1 st1 → Le w H w1 H1 → rel w1 H1 a b → YlS G w0 H0 W w1 H1 (f a st1) Dd → P b H1) : TT_ G w0 H0 W rel ea σ H P := by
  refine ⟨env, w, st, fr, ?_⟩
  cases h : ea env st with
  | ok a s =>
    rw [h] at y
    exact fun w' H' b x wr r => k a b w' H' s h (fr.step x wr) (x.le fr.wr) r (YlS.le (r := f a s) y (x.le fr.wr))
  | exc c s =>
    rw [h] at y
    exact fun w' H' x wr => y σ w' H' (fr.ext.trans x) wr
  | bad =>
    rw [h] at y
    exact y
/-- .. whose result is one's own -/
theorem S.seqO {ea : EvEnv → HSt → R D} {f : D → HSt → RS} {P : VK} (fr : FR G w0 H0 env σ w H st) (y : YlS G w0 H0 W w H ((ea env st).bindS f) Dd)
    (k : ∀ d a w1 H1 st1, ea env st = .ok d st1 → FR G w0 H0 (env ++ [some (true, d)]) (σ ++ [some (.ref a)]) w1 H1 st1 → Le w H w1 H1 → YlS G w0 H0 W w1 H1 (f d st1) Dd → P (.ref a) H1) : TOv G w0 H0 W ea σ H P := by
  refine ⟨env, w, st, fr, ?_⟩
  cases h : ea env st with
  | ok a s =>
    rw [h] at y
    exact fun w' H' b x _ f' => k a b w' H' s h f' (x.le fr.wr) (YlS.le (r := f a s) y (x.le fr.wr))
  | exc c s =>
    rw [h] at y
    exact fun w' H' x wr => y σ w' H' (fr.ext.trans x) wr
  | bad =>
    rw [h] at y
    exact y
end
section
variable {X : Cx} {G : GC} {w0 : Wd} {H0 : Hp} {W : WX}
theorem ss_nil : PSs X [] (TSv G w0 H0 W fun env st => .nx env st) := PSs.imp pss_nil fun D σ H ⟨env, w, st, fr, y⟩ => YlS.nx y fr .refl
theorem ss_cons {s : Stmt} {r : List Stmt} {e1 e2 : EvEnv → HSt → RS} (h1 : PS X s (TSv G w0 H0 W e1)) (h2 : PSs X r (TSv G w0 H0 W e2)) : PSs X (s :: r) (TSv G w0 H0 W fun env st => (e1 env st).bind e2) := by
  refine PSs.imp (pss_cons h1 h2) fun D σ H ⟨env, w, st, fr, y⟩ => ⟨env, w, st, fr, ?_⟩
  dsimp only at y
  cases q : e1 env st with
  | nx env' st' =>
    rw [q] at y
    intro σ' w' H' f l
    exact ⟨env', w', st', f, YlS.le (r := e2 env' st') y l⟩
  | rt d s => rw [q] at y; exact y
  | exc c s => rw [q] at y; exact y
  | bad => rw [q] at y; exact y
/-- one's own thing is shown from here on -/
theorem ss_frz {i : Nat} {r : List Stmt} {e2 : EvEnv → HSt → RS} (h2 : PSs X r (TSv G w0 H0 W e2)) :
    PSs X r (TSv G w0 H0 W fun env st => (match env[i]? with | some (some (_, d)) => RS.nx (env.set i (some (false, d))) st | _ => .nx env st).bind e2) := by
  refine PSs.imp h2 fun D σ H ⟨env, w, st, fr, y⟩ => ?_
  dsimp only at y
  cases q : env[i]? with
  | none => rw [q] at y; exact ⟨env, w, st, fr, y⟩
  | some s =>
    rw [q] at y
    match s, y, q with
    | none, y, _ => exact ⟨env, w, st, fr, y⟩
    | some (false, d), y, q =>
      have e : env.set i (some (false, d)) = env := by
        apply List.ext_getElem?
        intro j
        by_cases hj : i = j
        · subst hj; rw [List.getElem?_set_self (List.getElem?_eq_some_iff.mp q).1, q]
        · rw [List.getElem?_set_ne hj]
      dsimp only [RS.bind_nx] at y
      simp only [RS.bind_nx, e] at y
      exact ⟨env, w, st, fr, y⟩
    | some (true, d), y, q =>
      obtain ⟨a, _, f2, _, _, _⟩ := fr.freeze q
      exact ⟨_, _, st, f2, YlS.le (r := e2 _ st) y ⟨fun _ h => .inl h, fun _ _ => rfl, fun _ _ h => h⟩⟩
end
structure GoodS (X : Cx) (g : GN) (ck : CKS) (con : Nat → Option D) (C : CT) (N : List Str) (sc : Scope) (W : WX) (k : Nat) : Prop extends Good X g ck.toCK con C N sc W k where
  po : PassesOwn (model X.prog X.w) X.A X.env X.xe
  fnc : ∀ x, X.fn x = true
  exc : ∀ c, ck.xhas c = true → X.mg (ck.xn c) = some (.ref (g.cls c)) ∧ PySem.W.keepIn X.K (.ref (g.cls c)) = true ∧ PySem.W.excIn X.K (g.cls c) [.type "ValueError", .type "Exception", .type "BaseException", .type "object"] "ValueError.__new__" = true ∧
    PySem.W.subIn X.K (.ref (g.cls c)) (.type "BaseException") = some true ∧ PySem.W.typeIn X.K (.ref (g.cls c)) = some (.type "type")
theorem seq_beq {x y : Str} : seq x y = (x == y) := by
  rw [Bool.eq_iff_iff, beq_iff_eq]
  exact ⟨seq_eq, fun e => by subst e; unfold seq; rw [eqN_iff]⟩
theorem swap_any (s : Scope) (t : Str) : (s.names.any fun y => y.1 == t && (y.2 == .local || y.2 == .cell)) = (s.names.any fun p => seq p.1 t && (match p.2 with | .local => true | .cell => true | _ => false)) := by
  congr 1
  funext p
  rw [seq_beq]
  congr 1
  cases p.2 <;> rfl
theorem isLocal_eq {sc : Scope} {env : Env} {t : Str} (hs : env.scope = sc) : (env.kindOf t == some .local) = isLocal (lookN sc.names t) := by
  unfold Env.kindOf
  rw [lookN_eq, hs]
  cases sc.names.lookup t with
  | none => rfl
  | some k => cases k <;> rfl
theorem swap_bool {sc : Scope} {env : Env} {s : Scope} {t : Str} {l1 l2 : Nat} (hs : env.scope = sc) (h : swapB sc s t l1 l2 = false) :
    (env.blockKind == .function && env.kindOf t == some .local && l1 == l2 && !(s.names.any fun y => y.1 == t && (y.2 == .local || y.2 == .cell))) = false := by
  rw [swap_any, isLocal_eq hs]
  unfold swapB at h
  have e : (l1 == l2) = Nat.beq l1 l2 := by rw [Bool.eq_iff_iff, beq_iff_eq, Nat.beq_eq]
  rw [e]
  cases (env.blockKind == .function) with
  | false => rfl
  | true => rw [Bool.true_and]; exact h
section
variable {X : Cx} {g : GN} {ck : CKS} {con : Nat → Option D} {C : CT} {TD : Nat → Nat → Option D} {N : List Str} {sc : Scope} {W : WX} {k : Nat} {w0 : Wd} {H0 : Hp}
variable {ea eb ec : EvEnv → HSt → R D} {e : Expr}
theorem swap_false {v tg : Expr} {l : Nat} (gd : Good X g ck.toCK con C N sc W k) (h : noSwap sc v tg = true) : swapsWith v (some tg) l X.env = pure false := by
  unfold noSwap at h
  cases hc : compScope v with
  | none => cases v <;> first | rfl | cases hc
  | some s =>
    rw [hc] at h
    cases tg <;> first | cases h | skip
    rename_i x p
    simp only [Bool.not_eq_true'] at h
    have key : (X.env.blockKind == .function && X.env.kindOf x == some .local && p.line == v.pos.line && !(s.names.any fun y => y.1 == x && (y.2 == .local || y.2 == .cell))) = false := swap_bool gd.hs h
    cases v <;> first | cases hc | skip
    all_goals (show pure (X.env.blockKind == .function && X.env.kindOf x == some .local && p.line == _ && !(s.names.any fun y => y.1 == x && (y.2 == .local || y.2 == .cell))) = _; rw [key])
theorem s_set {t : Tgt} {tg v : Expr} {pos : Pos} (gd : GoodS X g ck con C N sc W k) (hg : chkG N sc (fun x => isCell (lookN sc.names x)) t tg = true) (hp : tgPlain tg v = true) (hs : noSwap sc v tg = true) (he : PE X v (TEv (Gx X g) w0 H0 W <| ea)) :
    PS X (.Assign [tg] v pos) (TSv (Gx X g) w0 H0 W <| fun env st => (ea env st).bindS fun d st => match bindT env t d with | some env' => .nx env' st | none => .bad) := by
  have hG := g_ok gd.hN gd.nd gd.hs gd.calm (fun x _ => gd.fnc x) t tg hg
  have hw : swappedStores [tg] v X.env = pure none := by
    cases tg <;> first | rfl | cases hp | skip
    cases v <;> first | rfl | cases hp
  have h1 : (assignEach [tg] X.env).map (·.2) = [assign tg X.env] := by
    cases tg <;> first | rfl | cases hp
  refine PS.imp (ps_asg he hG (swap_false gd.toGood hs) hw h1) fun D σ H ⟨env, w, st, fr, y⟩ => ?_
  refine S.seq fr y fun d u w1 H1 st1 _ fr1 l1 r y1 => ?_
  cases q : bindT env t d with
  | none => rw [q] at y1; exact y1.elim
  | some env' =>
    rw [q] at y1
    exact bind_ok t (wk := false) q fr1 (.inl r) (fun z => nomatch z) fun σ' f' _ => YlS.nx y1 f' .refl
theorem s_ret {pos : Pos} (he : PE X e (TEv (Gx X g) w0 H0 W <| ea)) : PS X (.Return (some e) pos) (TSv (Gx X g) w0 H0 W <| fun env st => (ea env st).bindS fun d st => .rt d st) :=
  PS.imp (ps_ret he) fun D σ H ⟨env, w, st, fr, y⟩ => S.seq fr y fun d u w1 H1 st1 _ fr1 l1 r y1 => y1 w1 H1 u fr1.ext fr1.wr r
theorem s_retN {pos : Pos} : PS X (.Return none pos) (TSv (Gx X g) w0 H0 W <| fun env st => .rt .non st) :=
  PS.imp ps_retN fun D σ H ⟨env, w, st, fr, y⟩ => y w H .non fr.ext fr.wr .non
theorem s_exp {pos : Pos} (hc : notComp e = true) (he : PE X e (TEv (Gx X g) w0 H0 W <| ea)) : PS X (.Expr e pos) (TSv (Gx X g) w0 H0 W <| fun env st => (ea env st).bindS fun _ st => .nx env st) := by
  have hs : swapsWith e none pos.line X.env = pure false := by cases e <;> first | rfl | cases hc
  exact PS.imp (ps_expr he hs) fun D σ H ⟨env, w, st, fr, y⟩ => S.seq fr y fun d u w1 H1 st1 _ fr1 l1 r y1 => YlS.nx y1 fr1 .refl
theorem s_if {c : Expr} {p q : List Stmt} {pos : Pos} {e1 e2 : EvEnv → HSt → RS} (hc : PT X c (TBv (Gx X g) w0 H0 W <| ec)) (h1 : PSs X p (TSv (Gx X g) w0 H0 W <| e1)) (h2 : PSs X q (TSv (Gx X g) w0 H0 W <| e2)) :
    PS X (.If c p q pos) (TSv (Gx X g) w0 H0 W <| fun env st => (ec env st).bindS fun d st => match d with | .bl true => e1 env st | .bl false => e2 env st | _ => .bad) := by
  refine PS.imp (ps_if hc h1 h2) fun D σ H ⟨env, w, st, fr, y⟩ => ?_
  have y' : YlS (Gx X g) w0 H0 W w H ((toB (ec env st)).bindS fun b st => if b = true then e1 env st else e2 env st) D := by
    unfold toB
    dsimp only at y
    cases q : ec env st with
    | ok d s =>
      rw [q] at y
      cases d with
      | bl t => cases t <;> exact y
      | _ => exact y.elim
    | exc c s => rw [q] at y; exact y
    | bad => rw [q] at y; exact y
  refine S.seq (ea := fun env st => toB (ec env st)) fr y' fun t t' w1 H1 st1 _ fr1 l1 r1 y1 => ?_
  have r1 : t = t' := r1
  subst r1
  cases t with
  | true => exact ⟨env, w1, st1, fr1, y1⟩
  | false => exact ⟨env, w1, st1, fr1, y1⟩
theorem storeB_ok (gd : Good X g ck.toCK con C N sc W k) {i : Nat} {x : Str} (h : storeB N sc i x = true) : X.N[i]? = some x ∧ L2.Loc X.env.scope x := by
  unfold storeB at h
  simp only [Bool.and_eq_true] at h
  refine ⟨by rw [gd.hN]; exact slotB_ok h.1, gd.loc ?_⟩
  have h2 := h.2
  cases q : lookN sc.names x with
  | none => rw [q] at h2; simp [isLocal, isCell] at h2
  | some z => rw [q] at h2; cases z <;> first | rfl | simp [isLocal, isCell] at h2
/-- a fresh thing goes into a name -/
theorem FR.own_to {env : EvEnv} {σ : L2.St} {w : Wd} {H : Hp} {st : HSt} {d : D} {a : Addr} {i : Nat} (f : FR (Gx X g) w0 H0 (env ++ [some (true, d)]) (σ ++ [some (.ref a)]) w H st) (hi : i < env.length) :
    FR (Gx X g) w0 H0 (env.set i (some (true, d))) (σ.set i (some (.ref a))) w H st := f.move hi
theorem s_setO {i : Nat} {x : Str} {v : Expr} {px pos : Pos} (gd : GoodS X g ck con C N sc W k) (hx : storeB N sc i x = true) (hs : noSwap sc v (.Name x px) = true) (he : PE X v (TOv (Gx X g) w0 H0 W <| ea)) :
    PS X (.Assign [.Name x px] v pos) (TSv (Gx X g) w0 H0 W <| fun env st => (ea env st).bindS fun d st => if isOwnD d && decide (i < env.length) then .nx (env.set i (some (true, d))) st else .bad) := by
  obtain ⟨h1, h2⟩ := storeB_ok gd.toGood hx
  refine PS.imp (ps_set (by rw [gd.hN]; exact gd.nd) h1 h2 he (swap_false gd.toGood hs) (.inl (gd.fnc x))) fun D σ H ⟨env, w, st, fr, y⟩ => ?_
  refine S.seqO fr y fun d a w1 H1 st1 _ fr1 l1 y1 => ?_
  split at y1
  · rename_i hc
    simp only [Bool.and_eq_true, decide_eq_true_eq] at hc
    exact YlS.nx y1 (fr1.move hc.2) .refl
  · exact y1.elim
/-- name = [..], swapped or not -/
theorem s_setLc {i : Nat} {x : Str} {elt tg it : Expr} {ifs : List Expr} {scope : Scope} {own : List Nat} {p px pos : Pos} {wi : TI} {gg : TG} {tt : TT} {te : TE} (gd : GoodS X g ck con C N sc W k) (hx : storeB N sc i x = true)
    (hi : PI X tg it wi) (ok : blkC N sc scope (ownN N own) = true)
    (hg : ∀ (s : Shared) (H : Hp) (C : Addr) (cl : List (Str × Addr)) (fp : List Addr), PG (X.blk s H scope (compEnvC scope cl C X.env) fp) tg gg) (ht : ∀ (s : Shared) (H : Hp) (C : Addr) (cl : List (Str × Addr)) (fp : List Addr), PTs (X.blk s H scope (compEnvC scope cl C X.env) fp) ifs tt)
    (he : ∀ (s : Shared) (H : Hp) (C : Addr) (cl : List (Str × Addr)) (fp : List Addr), PE (X.blk s H scope (compEnvC scope cl C X.env) fp) elt te) (hset : notSet it = true)
    (k : ∀ σ H Q, (TOv (Gx X g) w0 H0 W <| ea) σ H Q → tLc wi gg tt te own σ H Q) :
    PS X (.Assign [.Name x px] (.ListComp elt [⟨tg, it, ifs, 0⟩] scope p) pos) (TSv (Gx X g) w0 H0 W <| fun env st => (ea env st).bindS fun d st => if isOwnD d && decide (i < env.length) then .nx (env.set i (some (true, d))) st else .bad) := by
  obtain ⟨h1, h2⟩ := storeB_ok gd.toGood hx
  have fin : ∀ (D : Ends) (σ : L2.St) (H : Hp), (TSv (Gx X g) w0 H0 W <| fun env st => (ea env st).bindS fun d st => if isOwnD d && decide (i < env.length) then .nx (env.set i (some (true, d))) st else .bad) D σ H → tAsg (TOv (Gx X g) w0 H0 W <| ea) (gName i) D σ H := fun D σ H ⟨env, w, st, fr, y⟩ => by
    refine S.seqO fr y fun d a w1 H1 st1 _ fr1 l1 y1 => ?_
    split at y1
    · rename_i hc
      simp only [Bool.and_eq_true, decide_eq_true_eq] at hc
      exact YlS.nx y1 (fr1.move hc.2) .refl
    · exact y1.elim
  generalize hb : (X.env.blockKind == .function && X.env.kindOf x == some .local && px.line == p.line && !(scope.names.any fun y => y.1 == x && (y.2 == .local || y.2 == .cell))) = b
  have hsw : swapsWith (.ListComp elt [⟨tg, it, ifs, 0⟩] scope p) (some (.Name x px)) pos.line X.env = pure b := by rw [← hb]; rfl
  cases b with
  | false =>
    have key := pe_lc (pos := p) gd.calm (by rw [gd.hN]; exact gd.nd) hi (gd.blkok ok) hg ht he (folded_ok hset X.env)
    rw [ownN_map] at key
    exact PS.imp (ps_set (by rw [gd.hN]; exact gd.nd) h1 h2 (PE.imp key k) hsw (.inl (gd.fnc x))) fin
  | true =>
    have hl : X.env.scope.names.lookup x = some .local := by
      simp only [Bool.and_eq_true, beq_iff_eq] at hb
      exact hb.1.1.2
    have key := ps_setLc gd.calm (by rw [gd.hN]; exact gd.nd) h1 hl hsw hi (gd.blkok ok) hg ht he (folded_ok hset X.env)
    rw [ownN_map] at key
    exact PS.imp key fun D σ H h => k _ _ _ (fin D σ H h)
theorem s_raise {x m : Str} {j c : Nat} {p p2 pos pos' : Pos} (gd : GoodS X g ck con C N sc W k) (hc : ck.xhas c = true) (hx : globB sc x (ck.xn c) = true) :
    PS X (.Raise (some (.Call (.Name x p) [.Constant (.str m) j p2] [] pos)) none pos') (TSv (Gx X g) w0 H0 W <| fun env st => .exc c st) := by
  obtain ⟨rfl, h2, h3⟩ := globB_ok hx
  obtain ⟨e1, e2, e3, e4, e5⟩ := gd.exc c hc
  refine PS.imp (L2N.ps_raise gd.calm gd.tk (L2N.pmk_own PySem.F.excBase_ValueError e3 e1 e2 (raises_own e4 e5) (gd.gl h2) (plain_ok h3).1)) fun D σ H ⟨env, w, st, fr, y⟩ => y σ w H fr.ext fr.wr
theorem s_app {i : Nat} {x m : Str} {a : Expr} {p ap cp pos : Pos} (gd : GoodS X g ck con C N sc W k) (hx : varB N sc i x = true) (hm : seq m "append" = true) (hl : (ap.endLine == cp.line) = true) (hst : notStar a = true) (he : PE X a (TEv (Gx X g) w0 H0 W <| ea)) :
    PS X (.Expr (.Call (.Attribute (.Name x p) m ap) [a] [] cp) pos) (TSv (Gx X g) w0 H0 W <| fun env st => match env[i]? with | some (some (true, .lst ds)) => (ea env st).bindS fun d st => if ds.length < line then .nx (env.set i (some (true, .lst (ds ++ [d])))) st else .bad | _ => .bad) := by
  have := seq_eq hm
  subst this
  unfold varB at hx
  simp only [Bool.and_eq_true] at hx
  obtain ⟨p1, p2⟩ := plain_ok hx.2
  refine PS.imp (ps_expr (pe_bm PySem.F.plainAttrs_list PySem.F.slot_list_append PySem.F.type_list_append mt_append (pe_var (pos := p) (i := i) (by rw [gd.hN]; exact slotB_ok hx.1.1) (gd.vis hx.1.2) p1 p2) (pa_cons he pa_nil (star_ok hst _ _)) rfl ?_ hl (star_ok hst _ _) rfl)) fun D σ H ⟨env, w, st, fr, y⟩ => ?_
  · rw [star_ok hst]; rfl
  · dsimp only at y
    cases q : env[i]? with
    | none => rw [q] at y; exact y.elim
    | some s =>
      rw [q] at y
      match s, y, q with
      | none, y, _ => exact y.elim
      | some (false, d), y, _ => exact y.elim
      | some (true, d), y, q =>
        cases d with
        | lst ds =>
          obtain ⟨l, z1, z2, z3, z4, vs, z5, z6⟩ := fr.sl i _ q
          refine ⟨.ref l, z1, .inl ⟨rfl, vs, SqL.of z5⟩, S.seq fr y fun d u w1 H1 st1 _ fr1 l1 r y1 => ?_⟩
          obtain ⟨l', z1', y2, y3, y4, vs1, y5, y6⟩ := fr1.sl i _ q
          rw [z1] at z1'; cases z1'
          split at y1
          · rename_i hlen
            have hlen : ds.length < 16777216 := hlen
            refine ⟨l, vs1, u, rfl, rfl, y5, by rw [← y6.length, sizeLine_eq]; exact hlen, ?_⟩
            have le : Le w1 H1 w1 (upd H1 l (.lst (vs1 ++ [u]))) := ⟨fun _ h => h, fun b h => by rw [upd_ne (fun z => y2 (by rw [← z]; exact h))], fun _ _ h => h⟩
            exact YlS.nx y1 (fr1.write q z1 ⟨_, upd_same, (y6.append (.cons r .nil)).mono le⟩) le
          · exact y1.elim
        | _ => exact y.elim
theorem RepAll.dropLast {G : GC} {w : Wd} {H : Hp} {ds : List D} {vs : List V} (r : RepAll G w H ds vs) : RepAll G w H ds.dropLast vs.dropLast := by
  rw [List.dropLast_eq_take, List.dropLast_eq_take, r.length]
  exact r.take _
theorem s_pop {i t : Nat} {x y' m : Str} {p p' ap cp pos : Pos} (gd : GoodS X g ck con C N sc W k) (ht : storeB N sc t y' = true) (hx : varB N sc i x = true) (hm : seq m "pop" = true) (hl : (ap.endLine == cp.line) = true) :
    PS X (.Assign [.Name y' p'] (.Call (.Attribute (.Name x p) m ap) [] [] cp) pos) (TSv (Gx X g) w0 H0 W <| fun env st => match env[i]? with
    | some (some (true, .lst ds)) => (match ds.getLast? with
      | some d => if decide (t < env.length) && !(Nat.beq t i) then .nx ((env.set i (some (true, .lst ds.dropLast))).set t (some (false, d))) st else .bad
      | none => .bad)
    | _ => .bad) := by
  have := seq_eq hm
  subst this
  obtain ⟨h1, h2⟩ := storeB_ok gd.toGood ht
  unfold varB at hx
  simp only [Bool.and_eq_true] at hx
  obtain ⟨p1, p2⟩ := plain_ok hx.2
  refine PS.imp (ps_set (by rw [gd.hN]; exact gd.nd) h1 h2 (pe_bm0 PySem.F.plainAttrs_list PySem.F.slot_list_pop PySem.F.type_list_pop mt_pop (pe_var (pos := p) (i := i) (by rw [gd.hN]; exact slotB_ok hx.1.1) (gd.vis hx.1.2) p1 p2) rfl hl) rfl (.inl (gd.fnc y'))) fun D σ H ⟨env, w, st, fr, y⟩ => ?_
  dsimp only at y
  cases q : env[i]? with
  | none => rw [q] at y; exact y.elim
  | some s =>
    rw [q] at y
    match s, y, q with
    | none, y, _ => exact y.elim
    | some (false, d), y, _ => exact y.elim
    | some (true, d), y, q =>
      cases d with
      | lst ds =>
        dsimp only at y
        cases ql : ds.getLast? with
        | none => rw [ql] at y; exact y.elim
        | some d =>
          rw [ql] at y
          dsimp only at y
          split at y
          · rename_i hc
            simp only [Bool.and_eq_true, decide_eq_true_eq] at hc
            obtain ⟨l, z1, z2, z3, z4, vs, z5, z6⟩ := fr.sl i _ q
            rw [List.getLast?_eq_getElem?] at ql
            obtain ⟨v, ev, rv⟩ := z6.get ql
            rw [z6.length] at ev
            refine ⟨.ref l, z1, .inl ⟨rfl, vs, SqL.of z5⟩, l, vs, v, rfl, rfl, z5, ev, ?_⟩
            have le : Le w H w (upd H l (.lst vs.dropLast)) := ⟨fun _ h => h, fun b h => by rw [upd_ne (fun z => z2 (by rw [← z]; exact h))], fun _ _ h => h⟩
            have f1 := fr.write q z1 (d' := .lst ds.dropLast) (o := .lst vs.dropLast) ⟨_, upd_same, z6.dropLast.mono le⟩
            exact YlS.nx y (f1.store (rv.mono le) (by rw [List.length_set]; exact hc.1)) le
          · exact y.elim
      | _ => exact y.elim
theorem ixN_of {n : Nat} {i : Int} {j : Nat} (h : idxN n i = some j) : L2.ixN n i = some j := h
def rSetLD : TSet := fun o i v H Q => rSetL o i v H Q ∨ rSetD o i v H Q
theorem set_ld (hu : X.A.units + 1 < cLine) : PSet X rSetLD := by
  intro pins s σ H o i v ov iv u Q I ro ri rv h
  rcases h with h | h
  · exact set_list pins s σ H o i v ov iv u Q I ro ri rv h
  · exact set_dict hu pins s σ H o i v ov iv u Q I ro ri rv h
theorem sub_assign {o i : Expr} {pos : Pos} (hn : notSlice i = true) (env : Env) : ∀ v, assign (.Subscript o i pos) env v = (do
      let ov ← holding [v] (eval o env)
      let iv ← holding [v, ov] (eval i env)
      standAt pos
      holding [v, ov, iv] (setItem ov iv v)
      release [v, ov, iv] []) := by
  intro v
  cases i <;> first | rfl | cases hn
theorem putO_lst {ds : List D} {k v d' : D} (h : putO (.lst ds) k v = some d') : ∃ i j, k = .int i ∧ idxN ds.length i = some j ∧ d' = .lst (ds.set j v) := by
  simp only [putO] at h
  cases k with
  | int i =>
    simp only [Option.map_eq_some_iff] at h
    obtain ⟨j, h1, h2⟩ := h
    exact ⟨i, j, rfl, h1, h2.symm⟩
  | _ => cases h
theorem putO_dk {ks : List KY} {vs : List D} {k v d' : D} (h : putO (.dk ks vs) k v = some d') : ∃ kk, ks.length < line ∧ keyD k = some kk ∧ d' = .dk (putD ks vs kk v).1 (putD ks vs kk v).2 := by
  simp only [putO] at h
  split at h
  · rename_i hl
    simp only [Option.map_eq_some_iff] at h
    obtain ⟨j, h1, h2⟩ := h
    exact ⟨j, hl, h1, h2.symm⟩
  · cases h
theorem s_put {i : Nat} {x : Str} {a j : Expr} {p p' pos : Pos} (gd : GoodS X g ck con C N sc W k) (hx : varB N sc i x = true) (hn : notSlice j = true) (hc : notComp a = true) (hk : PE X j (TEv (Gx X g) w0 H0 W <| ea)) (he : PE X a (TEv (Gx X g) w0 H0 W <| eb)) :
    PS X (.Assign [.Subscript (.Name x p) j p'] a pos) (TSv (Gx X g) w0 H0 W <| fun env st => (eb env st).bindS fun v st => match env[i]? with
    | some (some (true, d)) => (ea env st).bindS fun k st => match putO d k v with
      | some d' => .nx (env.set i (some (true, d'))) st
      | none => .bad
    | _ => .bad) := by
  unfold varB at hx
  simp only [Bool.and_eq_true] at hx
  obtain ⟨p1, p2⟩ := plain_ok hx.2
  have hu := gd.u64
  refine PS.imp (ps_asg he (pg_sub (pe_var (pos := p) (i := i) (by rw [gd.hN]; exact slotB_ok hx.1.1) (gd.vis hx.1.2) p1 p2) hk (set_ld (by omega)) (sub_assign hn X.env)) (by cases a <;> first | rfl | cases hc) (by cases a <;> rfl) rfl) fun D σ H ⟨env, w, st, fr, y⟩ => ?_
  refine S.seq fr y fun v u w1 H1 st1 _ fr1 l1 r1 y1 => ?_
  cases q : env[i]? with
  | none => rw [q] at y1; exact y1.elim
  | some s =>
    rw [q] at y1
    match s, y1, q with
    | none, y1, _ => exact y1.elim
    | some (false, d), y1, _ => exact y1.elim
    | some (true, d), y1, q =>
      obtain ⟨l, z1, z2, z3, z4, z5⟩ := fr1.sl i _ q
      refine ⟨.ref l, z1, S.seq fr1 y1 fun kd ku w2 H2 st2 _ fr2 l2 r2 y2 => ?_⟩
      obtain ⟨l', z1', q2, q3, q4, q5⟩ := fr2.sl i _ q
      rw [z1] at z1'; cases z1'
      have rv := r1.mono l2
      have leW : ∀ o, Le w2 H2 w2 (upd H2 l o) := fun o => ⟨fun _ h => h, fun b h => by rw [upd_ne (fun z => q2 (by rw [← z]; exact h))], fun _ _ h => h⟩
      cases hp : putO d kd v with
      | none => rw [hp] at y2; exact y2.elim
      | some d' =>
        rw [hp] at y2
        cases d with
        | lst ds =>
          obtain ⟨i', j', rfl, h1, rfl⟩ := putO_lst hp
          cases rep_int r2
          obtain ⟨vs, e1, e2⟩ := q5
          exact .inl ⟨l, vs, i', j', rfl, rfl, e1, by rw [← e2.length]; exact ixN_of h1, YlS.nx y2 (fr2.write q z1 ⟨_, upd_same, (e2.set j' rv).mono (leW _)⟩) (leW _)⟩
        | dk ks vs =>
          obtain ⟨kk, h0, h1, rfl⟩ := putO_dk hp
          obtain ⟨ws, e1, e2, e3⟩ := q5
          have ek := keyD_kV h1 r2
          subst ek
          obtain ⟨ws', f1, f2, f3⟩ := putD_putK (k := kk) e2 e3 rv
          have h0 : ks.length < 16777216 := h0
          refine .inr ⟨l, _, rfl, DPut.k e1 (by rw [List.length_zip, List.length_map, ← e2, Nat.min_self, sizeLine_eq]; exact h0), ?_⟩
          rw [f1]
          exact YlS.nx y2 (fr2.write q z1 ⟨ws', upd_same, f2, f3.mono (leW _)⟩) (leW _)
        | _ => exact q5.elim
/-- a handle's thing is changed -/
theorem WRel.writeH {G : GC} {w : Wd} {H : Hp} {st : HSt} {n : Nat} {a : Addr} {hd hd' : HD} {o : HO} (wr : WRel G w H st) (hn : st[n]? = some hd) (ha : w.L[n]? = some a) (ho : Le w H w (upd H a o) → HRep G w (upd H a o) hd' a) :
    Ext w H w (upd H a o) ∧ WRel G w (upd H a o) (st.set n hd') := by
  have am : a ∈ w.L := List.mem_of_getElem? ha
  have le : Le w H w (upd H a o) := ⟨fun _ h => h, fun b h => by rw [upd_ne (fun z => wr.sep a am (by rw [← z]; exact h))], fun _ _ h => h⟩
  obtain ⟨a', e1, e2⟩ := wr.at_ n hd hn
  rw [ha] at e1; cases e1
  obtain ⟨o0, e3, e4⟩ := e2.pl
  refine ⟨⟨fun _ h => h, fun _ _ h => h, fun b u h hb _ => by rw [upd_ne (fun z => hb (by rw [z]; exact am))]; exact h, fun _ h => .inl h, fun _ h => .inl h, fun b u h n => ?_⟩, fun b h => ?_, wr.sep, wr.nd, by rw [List.length_set]; exact wr.len, fun m hd2 h => ?_, fun b u h e => wr.nt b u h (by rw [← le.eq b h]; exact e), tabs_write wr.tb e3 e4⟩
  · by_cases e : b = a
    · subst e
      obtain ⟨o', e5, e6⟩ := (ho le).pl
      exact ⟨o', e5, e6.1⟩
    · rw [upd_ne e]; exact ⟨u, h, n⟩
  · rw [le.eq b h]; exact wr.fz b h
  · by_cases e : n = m
    · subst e
      rw [List.getElem?_set_self (List.getElem?_eq_some_iff.mp hn).1] at h
      cases h
      exact ⟨a, ha, ho le⟩
    · rw [List.getElem?_set_ne e] at h
      obtain ⟨b, z1, z2⟩ := wr.at_ m hd2 h
      refine ⟨b, z1, z2.mono le ?_⟩
      have : b ≠ a := fun z => by
        subst z
        have h1 := (List.getElem?_eq_some_iff.mp ha)
        have h2 := (List.getElem?_eq_some_iff.mp z1)
        exact e ((List.getElem_inj wr.nd).mp (h1.2.trans h2.2.symm))
      rw [upd_ne this]
theorem s_putH {a b j : Expr} {p' pos : Pos} (gd : GoodS X g ck con C N sc W k) (hn : notSlice j = true) (hc : notComp a = true) (ho : PE X b (TEv (Gx X g) w0 H0 W <| ec)) (hk : PE X j (TEv (Gx X g) w0 H0 W <| ea)) (he : PE X a (TEv (Gx X g) w0 H0 W <| eb)) :
    PS X (.Assign [.Subscript b j p'] a pos) (TSv (Gx X g) w0 H0 W <| fun env st => (eb env st).bindS fun v st => (ec env st).bindS fun o st => (ea env st).bindS fun k st => match o with
    | .hnd n => (match st[n]? with
      | some h => (match putHD h k v with
        | some h' => .nx env (st.set n h')
        | none => .bad)
      | none => .bad)
    | _ => .bad) := by
  have hu := gd.u64
  refine PS.imp (ps_asg he (pg_sub ho hk (set_ld (by omega)) (sub_assign hn X.env)) (by cases a <;> first | rfl | cases hc) (by cases a <;> rfl) rfl) fun D σ H ⟨env, w, st, fr, y⟩ => ?_
  refine S.seq fr y fun v u w1 H1 st1 _ fr1 l1 r1 y1 => ?_
  refine S.seq fr1 y1 fun od ou w2 H2 st2 _ fr2 l2 r2 y2 => ?_
  refine S.seq fr2 y2 fun kd ku w3 H3 st3 _ fr3 l3 r3 y3 => ?_
  have rv := (r1.mono l2).mono l3
  have ro := r2.mono l3
  cases od with
  | hnd n =>
    dsimp only at y3
    cases q : st3[n]? with
    | none => rw [q] at y3; exact y3.elim
    | some h =>
      rw [q] at y3
      dsimp only at y3
      cases hp : putHD h kd v with
      | none => rw [hp] at y3; exact y3.elim
      | some h' =>
        rw [hp] at y3
        cases ro with
        | @hnd _ l ha =>
          obtain ⟨l', e1, e2⟩ := fr3.wr.at_ n h q
          rw [ha] at e1; cases e1
          cases h with
          | lst ds =>
            have hp2 : ∃ i j, kd = .int i ∧ idxN ds.length i = some j ∧ h' = .lst (ds.set j v) := by
              unfold putHD at hp
              cases kd with
              | int i =>
                simp only [Option.map_eq_some_iff] at hp
                obtain ⟨j, h1, h2⟩ := hp
                exact ⟨i, j, rfl, h1, h2.symm⟩
              | _ => cases hp
            obtain ⟨i', j', rfl, h1, rfl⟩ := hp2
            cases rep_int r3
            obtain ⟨vs, e1, e2⟩ := e2
            obtain ⟨x, wr'⟩ := fr3.wr.writeH (o := .lst (vs.set j' u)) (hd' := .lst (ds.set j' v)) q ha (fun le => ⟨_, upd_same, (e2.set j' rv).mono le⟩)
            exact .inl ⟨l, vs, i', j', rfl, rfl, e1, by rw [← e2.length]; exact ixN_of h1, YlS.nx y3 (fr3.step x wr') (x.le fr3.wr)⟩
          | dk ks vs =>
            have hp2 : ∃ kk, ks.length < line ∧ keyD kd = some kk ∧ h' = .dk (putD ks vs kk v).1 (putD ks vs kk v).2 := by
              unfold putHD at hp
              simp only at hp
              split at hp
              · rename_i hl
                simp only [Option.map_eq_some_iff] at hp
                obtain ⟨j, h1, h2⟩ := hp
                exact ⟨j, hl, h1, h2.symm⟩
              · cases hp
            obtain ⟨kk, h0, h1, rfl⟩ := hp2
            obtain ⟨ws, e1, e2, e3⟩ := e2
            have ek := keyD_kV h1 r3
            subst ek
            obtain ⟨ws', f1, f2, f3⟩ := putD_putK (k := kk) e2 e3 rv
            have h0 : ks.length < 16777216 := h0
            refine .inr ⟨l, _, rfl, DPut.k e1 (by rw [List.length_zip, List.length_map, ← e2, Nat.min_self, sizeLine_eq]; exact h0), ?_⟩
            rw [f1]
            obtain ⟨x, wr'⟩ := fr3.wr.writeH (o := .dK (((putD ks vs kk v).1.map kyK).zip ws')) (hd' := .dk (putD ks vs kk v).1 (putD ks vs kk v).2) q ha (fun le => ⟨ws', upd_same, f2, f3.mono le⟩)
            exact YlS.nx y3 (fr3.step x wr') (x.le fr3.wr)
          | ins c fs => cases hp
  | _ => exact y3.elim
theorem s_for {t : Tgt} {tg it : Expr} {body : List Stmt} {pos : Pos} {wk : Bool} {ei : EvEnv → HSt → R (List D)} {eb : EvEnv → HSt → RS} (gd : GoodS X g ck con C N sc W k) (hg : chkG N sc (fun x => isCell (lookN sc.names x)) t tg = true) (hset : notSet it = true)
    (hwk : wk = true → isTp t = true) (hi : PI X tg it (TIvL (Gx X g) w0 H0 W wk ei)) (hb : PSs X body (TSv (Gx X g) w0 H0 W <| eb)) : PS X (.For tg it body [] pos) (TSv (Gx X g) w0 H0 W <| fun env st => (ei env st).bindS fun ds st => evFor eb t ds env st) := by
  have hG := g_ok gd.hN gd.nd gd.hs gd.calm (fun x _ => gd.fnc x) t tg hg
  refine PS.imp (ps_for gd.po gd.calm hi hG hb (folded_ok hset X.env)) fun D σ H ⟨env, w, st, fr, y⟩ => ?_
  refine S.seq fr y fun ds J w1 H1 st1 _ fr1 l1 hJ y1 => ?_
  refine ⟨fun i m σ H => m = ds.length - i ∧ i ≤ ds.length ∧ ∃ env w st, FR (Gx X g) w0 H0 env σ w H st ∧ Le w1 H1 w H ∧ YlS (Gx X g) w0 H0 W w H (evFor eb t (ds.drop i) env st) D, ⟨_, rfl, Nat.zero_le _, env, w1, st1, fr1, .refl, y1⟩, ?_⟩
  rintro i m σ H ⟨rfl, hi, env, w, st, fr, le, y⟩
  by_cases hlt : i < ds.length
  · refine .inr ?_
    obtain ⟨go, yl⟩ := (hJ w H st le fr.wr i).1 ds[i] (by simp [hlt])
    refine ⟨go, fun σ H => i + 1 ≤ ds.length ∧ ∃ env w st, FR (Gx X g) w0 H0 env σ w H st ∧ Le w1 H1 w H ∧ YlS (Gx X g) w0 H0 W w H (evFor eb t (ds.drop (i + 1)) env st) D, fun σ' H' h => ⟨ds.length - (i + 1), by omega, rfl, h⟩, fun x H' hy => ?_⟩
    obtain ⟨w', px, rv⟩ := yl x H' hy
    have hd : ds.drop i = ds[i] :: ds.drop (i + 1) := List.drop_eq_getElem_cons hlt
    rw [hd] at y
    simp only [evFor] at y
    have f' := fr.step px.ext (px.wrel fr.wr)
    have y := YlS.le y (px.ext.le fr.wr)
    cases hb : bindT env t ds[i] with
    | none => rw [hb] at y; exact y.elim
    | some env' =>
      rw [hb] at y
      dsimp only at y
      refine bind_ok t hb f' rv hwk fun σ2 fσ _ => ⟨env', w', st, fσ, ?_⟩
      cases q : eb env' st with
      | nx e2 s2 =>
        rw [q] at y
        exact fun σ3 w3 H3 f3 l3 => ⟨by omega, e2, w3, s2, f3, (le.trans (px.ext.le fr.wr)).trans l3, YlS.le (r := evFor eb t (ds.drop (i + 1)) e2 s2) y l3⟩
      | rt d s => rw [q] at y; exact y
      | exc c s => rw [q] at y; exact y
      | bad => rw [q] at y; exact y
  · have hie : i = ds.length := by omega
    refine .inl ⟨(hJ w H st le fr.wr i).2 (by omega), ?_⟩
    rw [hie, List.drop_length] at y
    exact YlS.nx y fr .refl
theorem s_whl {c : Expr} {body : List Stmt} {pos : Pos} {n : Nat} {eb : EvEnv → HSt → RS} (gd : GoodS X g ck con C N sc W k) (hc : PT X c (TBv (Gx X g) w0 H0 W <| ec)) (hb : PSs X body (TSv (Gx X g) w0 H0 W <| eb)) : PS X (.While c body [] pos) (TSv (Gx X g) w0 H0 W <| fun env st => evWhl ec eb n env st) := by
  refine PS.imp (ps_while gd.po hc hb) fun D σ H ⟨env, w, st, fr, y⟩ => ?_
  refine ⟨fun m σ H => ∃ env w st, FR (Gx X g) w0 H0 env σ w H st ∧ YlS (Gx X g) w0 H0 W w H (evWhl ec eb m env st) D, ⟨n, env, w, st, fr, y⟩, ?_⟩
  rintro m σ H ⟨env, w, st, fr, y⟩
  cases m with
  | zero => exact y.elim
  | succ m =>
    have y' : YlS (Gx X g) w0 H0 W w H ((toB (ec env st)).bindS fun b st => if b = true then (eb env st).bind fun env st => evWhl ec eb m env st else .nx env st) D := by
      unfold evWhl at y
      unfold toB
      cases q : ec env st with
      | ok d s =>
        rw [q] at y
        cases d with
        | bl t => cases t <;> exact y
        | _ => exact y.elim
      | exc c s => rw [q] at y; exact y
      | bad => rw [q] at y; exact y
    refine S.seq (ea := fun env st => toB (ec env st)) fr y' fun t t' w1 H1 st1 _ fr1 l1 r1 y1 => ?_
    have r1 : t = t' := r1
    subst r1
    cases t with
    | false => exact YlS.nx y1 fr1 .refl
    | true =>
      rw [if_pos rfl] at y1 ⊢
      refine ⟨fun σ H => ∃ env w st, FR (Gx X g) w0 H0 env σ w H st ∧ YlS (Gx X g) w0 H0 W w H (evWhl ec eb m env st) D, fun σ' H' h => ⟨m, Nat.lt_succ_self _, h⟩, env, w1, st1, fr1, ?_⟩
      cases q : eb env st1 with
      | nx e2 s2 =>
        rw [q] at y1
        exact fun σ3 w3 H3 f3 l3 => ⟨e2, w3, s2, f3, YlS.le (r := evWhl ec eb m e2 s2) y1 l3⟩
      | rt d s => rw [q] at y1; exact y1
      | exc c s => rw [q] at y1; exact y1
      | bad => rw [q] at y1; exact y1
end
end Ev
namespace Ev
open PySem PySem.Spec PyProof.Rows L2
theorem kindLoc {sc : Scope} {env : Env} {x : Str} (hs : env.scope = sc) (h : isLocal (lookN sc.names x) = true) : env.kindOf x = some .local := by
  have := isLocal_eq (t := x) hs
  rw [h] at this
  exact beq_iff_eq.mp this
theorem kindNot {sc : Scope} {env : Env} {x : Str} (hs : env.scope = sc) (h : isLocal (lookN sc.names x) = false) : (env.kindOf x == some .local) = false := by
  rw [isLocal_eq (t := x) hs, h]
theorem isFun_ok {sc : Scope} {env : Env} (hs : env.scope = sc) (h : isFun sc = true) : env.blockKind = .function := by
  unfold isFun at h
  unfold Env.blockKind
  rw [hs]
  split at h
  · rename_i e
    rw [e]; rfl
  · cases h
theorem anyStar {vs : List Expr} (h : vs.all notStar = true) : (vs.any fun | .Starred .. => true | _ => false) = false := by
  rw [List.any_eq_false]
  intro e he
  have := List.all_eq_true.mp h e he
  cases e <;> first | (simp; done) | cases this
theorem swapped2 {sc : Scope} {env : Env} {x y : Str} {px py p1 p2 : Pos} {k1 k2} {a b : Expr} (hs : env.scope = sc) (h : parKind sc [.Name x px, .Name y py] [a, b] = some true) :
    swappedStores [.Tuple [.Name x px, .Name y py] k1 p1] (.Tuple [a, b] k2 p2) env = pure (some [x, y]) := by
  unfold parKind at h
  split at h
  · rename_i h0
    simp only [Bool.and_eq_true] at h0
    dsimp only at h
    split at h
    · rename_i h1
      simp only [Bool.and_eq_true] at h1
      split at h
      · rename_i h2
        simp only [Bool.and_eq_true, Bool.not_eq_true', Nat.beq_eq] at h2
        obtain ⟨⟨⟨e1, e2⟩, e3⟩, e4⟩ := h2
        unfold swappedStores
        have kx := kindLoc hs h1.1
        have ky := kindLoc hs h1.2
        have hf := isFun_ok hs h0.2
        have hn := anyStar h0.1
        have ne : x ≠ y := fun z => by rw [z, seq_beq] at e2; simp at e2
        have e1' : (py.line == px.line) = true := by rw [beq_iff_eq]; exact e1
        have ne' : (y == x) = false := by rw [beq_eq_false_iff_ne]; exact fun z => ne z.symm
        have hp : (Expr.Name x px).pos = px := rfl
        dsimp only
        refine Eq.trans (if_neg (by simp [hf])) (Eq.trans (if_neg (Bool.eq_false_iff.mp hn)) ?_)
        have hfm : ([Expr.Name x px, Expr.Name y py].filterMap fun
            | .Name id pos => if env.kindOf id == some .local && pos.line == (([Expr.Name x px, Expr.Name y py].head?.map (·.pos.line)).getD 0) then some id else none
            | _ => none) = [x, y] := by
          simp [List.filterMap_cons, kx, ky, hp, e1]
        refine Eq.trans (if_neg (Bool.eq_false_iff.mp ?_)) (Eq.trans (if_neg (Bool.eq_false_iff.mp e3)) (Eq.trans (if_neg (Bool.eq_false_iff.mp e4)) ?_))
        · have hd : ([x, y].length != [Expr.Name x px, Expr.Name y py].length || [x, y].eraseDups.length != [x, y].length) = false := by
            simp [List.eraseDups, List.eraseDupsBy, List.eraseDupsBy.loop, beq_eq_false_iff_ne.mpr ne.symm]
          rw [← hfm] at hd
          exact hd
        · exact congrArg (fun z => pure (some z)) hfm
      · cases h
    · cases h
  · cases h
theorem swapped3 {sc : Scope} {env : Env} {x y z : Str} {px py pz p1 p2 : Pos} {k1 k2} {a b c : Expr} (hs : env.scope = sc) (h : parKind sc [.Name x px, .Name y py, .Name z pz] [a, b, c] = some true) :
    swappedStores [.Tuple [.Name x px, .Name y py, .Name z pz] k1 p1] (.Tuple [a, b, c] k2 p2) env = pure (some [x, y, z]) := by
  unfold parKind at h
  split at h
  · rename_i h0
    simp only [Bool.and_eq_true] at h0
    dsimp only at h
    split at h
    · rename_i h1
      simp only [Bool.and_eq_true] at h1
      split at h
      · rename_i h2
        simp only [Bool.and_eq_true, Bool.not_eq_true', Nat.beq_eq] at h2
        obtain ⟨⟨⟨⟨⟨⟨e1, e1b⟩, e2⟩, e2b⟩, e2c⟩, e3⟩, e4⟩ := h2
        unfold swappedStores
        have kx := kindLoc hs h1.1.1
        have ky := kindLoc hs h1.1.2
        have kz := kindLoc hs h1.2
        have hf := isFun_ok hs h0.2
        have hn := anyStar h0.1
        have ne : x ≠ y := fun w => by rw [w, seq_beq] at e2; simp at e2
        have ne2 : x ≠ z := fun w => by rw [w, seq_beq] at e2b; simp at e2b
        have ne3 : y ≠ z := fun w => by rw [w, seq_beq] at e2c; simp at e2c
        have hp : (Expr.Name x px).pos = px := rfl
        dsimp only
        refine Eq.trans (if_neg (by simp [hf])) (Eq.trans (if_neg (Bool.eq_false_iff.mp hn)) ?_)
        have hfm : ([Expr.Name x px, Expr.Name y py, Expr.Name z pz].filterMap fun
            | .Name id pos => if env.kindOf id == some .local && pos.line == (([Expr.Name x px, Expr.Name y py, Expr.Name z pz].head?.map (·.pos.line)).getD 0) then some id else none
            | _ => none) = [x, y, z] := by
          simp [List.filterMap_cons, kx, ky, kz, hp, e1, e1b]
        refine Eq.trans (if_neg (Bool.eq_false_iff.mp ?_)) (Eq.trans (if_neg (Bool.eq_false_iff.mp e3)) (Eq.trans (if_neg (Bool.eq_false_iff.mp e4)) ?_))
        · have hd : ([x, y, z].length != [Expr.Name x px, Expr.Name y py, Expr.Name z pz].length || [x, y, z].eraseDups.length != [x, y, z].length) = false := by
            simp [List.eraseDups, List.eraseDupsBy, List.eraseDupsBy.loop, beq_eq_false_iff_ne.mpr ne.symm, beq_eq_false_iff_ne.mpr ne2.symm, beq_eq_false_iff_ne.mpr ne3.symm]
          rw [← hfm] at hd
          exact hd
        · exact congrArg (fun z => pure (some z)) hfm
      · cases h
    · cases h
  · cases h
theorem fm_ne {α β : Type} {f : α → Option β} : ∀ {l : List α} {a : α}, a ∈ l → f a = none → (l.filterMap f).length ≠ l.length
  | x :: l, a, h, e => by
    have le := List.length_filterMap_le f l
    cases q : f x with
    | none => rw [List.filterMap_cons_none q, List.length_cons]; omega
    | some b =>
      rw [List.filterMap_cons_some q, List.length_cons, List.length_cons]
      rcases List.mem_cons.mp h with z | z
      · rw [← z, e] at q; cases q
      · have := fm_ne z e; omega
theorem unswapped {sc : Scope} {env : Env} {ts vs : List Expr} {p1 p2 : Pos} {k1 k2} (hs : env.scope = sc) (h : parKind sc ts vs = some false) (hl : vs.length = ts.length) :
    swappedStores [.Tuple ts k1 p1] (.Tuple vs k2 p2) env = pure none := by
  unfold parKind at h
  split at h
  · rename_i h0
    simp only [Bool.and_eq_true] at h0
    have hf := isFun_ok hs h0.2
    have hn := anyStar h0.1
    have fin : (ts.length = 2 ∨ ts.length = 3) → (∃ x px, Expr.Name x px ∈ ts ∧ isLocal (lookN sc.names x) = false) → swappedStores [.Tuple ts k1 p1] (.Tuple vs k2 p2) env = pure none := by
      rintro h2 ⟨x, px, hm, hx⟩
      unfold swappedStores
      dsimp only
      have h23 : (ts.length == 2 || ts.length == 3) = true := by rcases h2 with z | z <;> simp [z]
      refine Eq.trans (if_neg (by simp [hf, hl, h23, h2])) (Eq.trans (if_neg (Bool.eq_false_iff.mp hn)) (if_pos ?_))
      rw [Bool.or_eq_true]
      refine .inl ?_
      rw [bne_iff_ne]
      refine fm_ne hm ?_
      have := kindNot hs hx
      simp [this]
    split at h
    · rename_i x px y py
      split at h
      · split at h <;> cases h
      · rename_i h1
        refine fin (.inl rfl) ?_
        cases hx : isLocal (lookN sc.names x) with
        | false => exact ⟨x, px, by simp, hx⟩
        | true =>
          rw [hx, Bool.true_and] at h1
          exact ⟨y, py, by simp, Bool.eq_false_iff.mpr h1⟩
    · rename_i x px y py z pz
      split at h
      · split at h <;> cases h
      · rename_i h1
        refine fin (.inr rfl) ?_
        cases hx : isLocal (lookN sc.names x) with
        | false => exact ⟨x, px, by simp, hx⟩
        | true =>
          cases hy : isLocal (lookN sc.names y) with
          | false => exact ⟨y, py, by simp, hy⟩
          | true =>
            rw [hx, hy, Bool.true_and, Bool.true_and] at h1
            exact ⟨z, pz, by simp, Bool.eq_false_iff.mpr h1⟩
    · cases h
  · cases h
/-! ### several at once -/
section
variable {G : GC} {w0 : Wd} {H0 : Hp} {env : EvEnv} {σ : L2.St} {w w1 : Wd} {H H1 : Hp} {st st1 : HSt}
theorem FR.initN : ∀ {pre : EvEnv} {preσ : L2.St} {env : EvEnv} {σ : L2.St}, pre.length = preσ.length → FR G w0 H0 (env ++ pre) (σ ++ preσ) w H st → FR G w0 H0 env σ w H st
  | [], [], _, _, _, f => by simpa using f
  | [], _ :: _, _, _, h, _ => by cases h
  | _ :: _, [], _, _, h, _ => by cases h
  | s :: pre, v :: preσ, env, σ, h, f => by
    have f2 : FR G w0 H0 ((env ++ [s]) ++ pre) ((σ ++ [v]) ++ preσ) w H st := by simpa using f
    exact (FR.initN (by simpa using h) f2).init
/-- a frozen value joins -/
theorem FR.push {d : D} {v : V} (f : FR G w0 H0 env σ w H st) (r : Rep G w H d v) : FR G w0 H0 (env ++ [some (false, d)]) (σ ++ [some v]) w H st := by
  refine ⟨f.ext, f.wr, by rw [List.length_append, List.length_append, f.len]; rfl, fun i s h => ?_, fun i j d1 d2 hij h1 h2 => ?_⟩
  · rcases slot_app h with ⟨hi, h⟩ | ⟨hi, h⟩
    · have q := f.sl i s h
      have hσ : i < σ.length := by rw [← f.len]; exact hi
      obtain ⟨b, d'⟩ := s
      cases b with
      | false => obtain ⟨v, q1, q2⟩ := q; exact ⟨v, by rw [st_app hσ]; exact q1, q2⟩
      | true => obtain ⟨a, q1, q2⟩ := q; exact ⟨a, by rw [st_app hσ]; exact q1, q2⟩
    · cases h
      exact ⟨v, by rw [hi, f.len]; exact st_last, r⟩
  · rcases slot_app h1 with ⟨hi, h1⟩ | ⟨hi, h1⟩
    · rcases slot_app h2 with ⟨hj, h2⟩ | ⟨hj, h2⟩
      · rw [st_app (by rw [← f.len]; exact hi), st_app (by rw [← f.len]; exact hj)]
        exact f.ap i j d1 d2 hij h1 h2
      · cases h2
    · cases h1
/-- a new untracked thing is laid -/
theorem FR.lay {p : Addr} {o : HO} (f : FR G w0 H0 env σ w H st) (hp : H p = none) : FR G w0 H0 env σ w (upd H p o) st := by
  have pe : PExt w H w (upd H p o) := ⟨fun _ h => h, rfl, fun b u h => by rw [upd_ne (ne_of_none h hp)]; exact h, fun _ h => .inl h⟩
  exact f.step pe.ext (pe.wrel f.wr)
end
section
variable {X : Cx} {g : GN} {ck : CKS} {con : Nat → Option D} {C : CT} {N : List Str} {sc : Scope} {W : WX} {k : Nat} {w0 : Wd} {H0 : Hp}
variable {e : Expr}
theorem sO (gd : Good X g ck.toCK con C N sc W k) : ∀ (i : IE) (e : Expr), freshE i = true → chkE ck.toCK N sc i e = true → PE X e (TOv (Gx X g) w0 H0 W <| fun env st => evE con C (GN.td g) env i st)
  | .lst es, e, _, h => by
    simp only [chkE] at h
    split at h <;> first | cases h | simp only [Bool.and_eq_true] at h
    exact n_lst (sEs es gd _ h.2) fun env st ds st' q => by rw [evEs_len es q]; exact Nat.le_of_ble_eq_true h.1
  | .lc own t src elt, e, _, h => by
    simp only [chkE] at h
    split at h <;> first | cases h | simp only [Bool.and_eq_true] at h
    obtain ⟨⟨⟨⟨⟨h1, h2⟩, h3⟩, h4⟩, h5⟩, h6⟩ := h
    obtain ⟨wk, hw, hi⟩ := sI src gd _ _ t h2 h5
    exact r_lc gd h1 h2 h3 hw h4 hi fun s H C' cl fp => sE elt (gd.blk s H _ C' cl fp) _ h6
  | .lcf own t src elt cond, e, _, h => by
    simp only [chkE] at h
    split at h <;> first | cases h | simp only [Bool.and_eq_true] at h
    obtain ⟨⟨⟨⟨⟨⟨⟨h1, h2⟩, h3⟩, h4⟩, h5⟩, h6⟩, h7⟩, h8⟩ := h
    obtain ⟨wk, hw, hi⟩ := sI src gd _ _ t h2 h5
    exact r_lcf gd h1 h2 h3 hw h4 hi (fun s H C' cl fp => sE elt (gd.blk s H _ C' cl fp) _ h6) fun s H C' cl fp => sT cond (gd.blk s H _ C' cl fp) _ h8 h7 (sE cond (gd.blk s H _ C' cl fp) _ h8)
  | .dc own t src kk v, e, _, h => by
    simp only [chkE] at h
    split at h <;> first | cases h | simp only [Bool.and_eq_true] at h
    obtain ⟨⟨⟨⟨⟨⟨h1, h2⟩, h3⟩, h4⟩, h5⟩, h6⟩, h7⟩ := h
    obtain ⟨wk, hw, hi⟩ := sI src gd _ _ t h2 h5
    exact r_dc gd h1 h2 h3 hw h4 hi (fun s H C' cl fp => sE kk (gd.blk s H _ C' cl fp) _ h6) fun s H C' cl fp => sE v (gd.blk s H _ C' cl fp) _ h7
  | .dct ks vs, e, hf, h => by
    cases ks with
    | cons _ _ => cases hf
    | nil =>
      cases vs with
      | cons _ _ => cases hf
      | nil =>
        simp only [chkE] at h
        split at h <;> first | cases h | skip
        exact n_dct
  | .dct1 i, e, _, h => by
    simp only [chkE] at h
    split at h <;> first | cases h | skip
    exact n_dct1 gd h
def YlP (G : GC) (w0 : Wd) (H0 : Hp) (W : WX) (env : EvEnv) (σ τ : L2.St) (w : Wd) (H : Hp) (r : R (List (Bool × D))) (Q : List V → Hp → Prop) : Prop := match r with
  | .ok ds st' => ∀ w' H' vs, Le w H w' H' → FR G w0 H0 (env ++ ds.map some) (σ ++ vs.map some) w' H' st' → ds.length = vs.length → Q vs H'
  | .exc c st' => ∀ w' H', Ext w0 H0 w' H' → WRel G w' H' st' → W (.ref (G.cls c)) none τ H'
  | .bad => False
def TPar (G : GC) (w0 : Wd) (H0 : Hp) (W : WX) (ev : EvEnv → HSt → R (List (Bool × D))) : TA := fun σ H Q => ∃ env pre preσ w st, env.length = σ.length ∧ pre.length = preσ.length ∧ FR G w0 H0 (env ++ pre) (σ ++ preσ) w H st ∧ YlP G w0 H0 W (env ++ pre) (σ ++ preσ) σ w H (ev env st) Q
theorem a_par (gd : Good X g ck.toCK con C N sc W k) : ∀ (is : List (Bool × IE)) (es : List Expr), chkPs ck N sc is es = true → PA X es (TPar (Gx X g) w0 H0 W fun env st => evPar (fun e st => evE con C (GN.td g) env e st) is st)
  | [], [], _ => PA.imp pa_nil fun σ H Q ⟨env, pre, preσ, w, st, l1, l2, fr, y⟩ => y w H [] .refl (by simpa using fr) rfl
  | [], _ :: _, h => by simp [chkPs] at h
  | _ :: _, [], h => by simp [chkPs] at h
  | (o, i) :: is, e :: es, h => by
    simp only [chkPs, Bool.and_eq_true] at h
    obtain ⟨⟨⟨h1, h2⟩, h3⟩, h4⟩ := h
    have ht := a_par gd is es h4
    -- behind the first
    have next : ∀ {σ : L2.St} {H H1 : Hp} {Q : List V → Hp → Prop} {env pre preσ w w1 st st1 d v}, env.length = σ.length → pre.length = preσ.length → Le w H w1 H1 → evE con C (GN.td g) env i st = .ok d st1 →
        YlP (Gx X g) w0 H0 W (env ++ pre) (σ ++ preσ) σ w H (evPar (fun e st => evE con C (GN.td g) env e st) ((o, i) :: is) st) Q → (o = true → isOwnD d = true) → FR (Gx X g) w0 H0 ((env ++ pre) ++ [some (o, d)]) ((σ ++ preσ) ++ [some v]) w1 H1 st1 →
        TPar (Gx X g) w0 H0 W (fun env st => evPar (fun e st => evE con C (GN.td g) env e st) is st) σ H1 fun vs H2 => Q (v :: vs) H2 := by
      intro σ H H1 Q env pre preσ w w1 st st1 d v l1 l2 le e1 y ho f
      refine ⟨env, pre ++ [some (o, d)], preσ ++ [some v], w1, st1, l1, by simp [l2], by simpa using f, ?_⟩
      unfold evPar at y
      rw [e1] at y
      simp only [R.bind_ok] at y
      have hc : (o && !isOwnD d) = false := by
        cases o with
        | false => rfl
        | true => rw [ho rfl]; rfl
      rw [hc] at y
      simp only [Bool.false_eq_true, if_false] at y
      dsimp only
      cases q : evPar (fun e st => evE con C (GN.td g) env e st) is st1 with
      | ok ds s =>
        rw [q] at y
        intro w' H' vs le2 f2 hl
        exact y w' H' (v :: vs) (le.trans le2) (by simpa using f2) (by simp [hl])
      | exc c s => rw [q] at y; exact y
      | bad => rw [q] at y; exact y
    have first : ∀ {σ : L2.St} {H : Hp} {Q : List V → Hp → Prop} {env pre preσ w st}, YlP (Gx X g) w0 H0 W (env ++ pre) (σ ++ preσ) σ w H (evPar (fun e st => evE con C (GN.td g) env e st) ((o, i) :: is) st) Q →
        (∀ c s, evE con C (GN.td g) env i st = .exc c s → ∀ w' H', Ext w0 H0 w' H' → WRel (Gx X g) w' H' s → W (.ref (g.cls c)) none σ H') ∧ evE con C (GN.td g) env i st ≠ .bad := by
      intro σ H Q env pre preσ w st y
      unfold evPar at y
      refine ⟨fun c s q => ?_, fun q => ?_⟩
      · rw [q] at y; exact y
      · rw [q] at y; exact y
    cases o with
    | false =>
      refine PA.imp (pa_cons (sE (w0 := w0) (H0 := H0) i gd e h3) ht (star_ok h2 _ _)) fun σ H Q ⟨env, pre, preσ, w, st, l1, l2, fr, y⟩ => ⟨env, w, st, FR.initN l2 fr, ?_⟩
      obtain ⟨f1, f2⟩ := first y
      dsimp only at y ⊢
      cases q : evE con C (GN.td g) env i st with
      | exc c s => exact fun w' H' x wr => f1 c s q w' H' (fr.ext.trans x) wr
      | bad => exact absurd q f2
      | ok d s => exact fun w1 H1 v x wr r => next l1 l2 (x.le fr.wr) q y (fun z => nomatch z) ((fr.step x wr).push r)
    | true =>
      refine PA.imp (pa_cons (sO (w0 := w0) (H0 := H0) gd i e (by simpa using h1) h3) ht (star_ok h2 _ _)) fun σ H Q ⟨env, pre, preσ, w, st, l1, l2, fr, y⟩ => ⟨env, w, st, FR.initN l2 fr, ?_⟩
      obtain ⟨f1, f2⟩ := first y
      dsimp only at y ⊢
      cases q : evE con C (GN.td g) env i st with
      | exc c s => exact fun w' H' x wr => f1 c s q w' H' (fr.ext.trans x) wr
      | bad => exact absurd q f2
      | ok d s =>
        intro w1 H1 a x hn f
        obtain ⟨z1, z2, z3, z4⟩ := f.last
        refine next l1 l2 (x.le fr.wr) q y (fun _ => ?_) ((fr.step x f.wr).addOwn z1 z2 z3 z4 (fr.own_ne hn))
        cases d <;> first | rfl | exact z4.elim
theorem isNms_len {N : List Str} {sc : Scope} : ∀ {ts : List Nat} {es : List Expr}, isNms N sc ts es = true → ts.length = es.length
  | [], [], _ => rfl
  | [], _ :: _, h => by simp [isNms] at h
  | _ :: _, [], h => by simp [isNms] at h
  | i :: is, e :: es, h => by
    cases e <;> simp [isNms] at h
    simp [isNms_len h.2]
theorem chkPs_len : ∀ {is : List (Bool × IE)} {es : List Expr}, chkPs ck N sc is es = true → is.length = es.length ∧ es.all notStar = true
  | [], [], _ => ⟨rfl, rfl⟩
  | [], _ :: _, h => by simp [chkPs] at h
  | _ :: _, [], h => by simp [chkPs] at h
  | (o, i) :: is, e :: es, h => by
    simp only [chkPs, Bool.and_eq_true] at h
    obtain ⟨a, b⟩ := chkPs_len h.2
    exact ⟨by simp [a], by rw [List.all_cons, h.1.1.2, b]; rfl⟩
/-- the slots behind the values go into the names -/
theorem setPar2 {env env' : EvEnv} {i j : Nat} {ds : List (Bool × D)} (h : setPar env [i, j] ds = some env') : ∃ d1 d2, ds = [d1, d2] ∧ i < env.length ∧ j < env.length ∧ env' = (env.set i (some d1)).set j (some d2) := by
  match ds, h with
  | [], h => cases h
  | [d], h =>
    simp only [setPar] at h
    split at h <;> cases h
  | [d1, d2], h =>
    simp only [setPar] at h
    split at h
    · split at h
      · rename_i h1 h2
        cases h
        exact ⟨d1, d2, rfl, h1, by simpa using h2, rfl⟩
      · cases h
    · cases h
  | d1 :: d2 :: d3 :: ds, h =>
    simp only [setPar] at h
    split at h
    · split at h <;> cases h
    · cases h
theorem setPar3 {env env' : EvEnv} {i j l : Nat} {ds : List (Bool × D)} (h : setPar env [i, j, l] ds = some env') : ∃ d1 d2 d3, ds = [d1, d2, d3] ∧ i < env.length ∧ j < env.length ∧ l < env.length ∧ env' = ((env.set i (some d1)).set j (some d2)).set l (some d3) := by
  match ds, h with
  | [], h => cases h
  | [d], h =>
    simp only [setPar] at h
    split at h <;> cases h
  | [d1, d2], h =>
    simp only [setPar] at h
    split at h
    · split at h <;> cases h
    · cases h
  | [d1, d2, d3], h =>
    simp only [setPar] at h
    split at h
    · split at h
      · split at h
        · rename_i h1 h2 h3
          cases h
          exact ⟨d1, d2, d3, rfl, h1, by simpa using h2, by simpa using h3, rfl⟩
        · cases h
      · cases h
    · cases h
  | d1 :: d2 :: d3 :: d4 :: ds, h =>
    simp only [setPar] at h
    split at h
    · split at h
      · split at h <;> cases h
      · cases h
    · cases h
theorem FR.par2 {G : GC} {env : EvEnv} {σ : L2.St} {w : Wd} {H : Hp} {st : HSt} {i j : Nat} {d1 d2 : Bool × D} {v1 v2 : V} (f : FR G w0 H0 (env ++ [some d1, some d2]) (σ ++ [some v1, some v2]) w H st) (hi : i < env.length) (hj : j < env.length) (hij : i ≠ j) :
    FR G w0 H0 ((env.set i (some d1)).set j (some d2)) ((σ.set i (some v1)).set j (some v2)) w H st := by
  have len : env.length = σ.length := by have := f.len; simpa using this
  have f1 : FR G w0 H0 ((env ++ [some d1]) ++ [some d2]) ((σ ++ [some v1]) ++ [some v2]) w H st := by simpa using f
  have f2 := f1.move (i := j) (by simp; omega)
  rw [List.set_append_left _ _ hj, List.set_append_left _ _ (by omega)] at f2
  have f3 := f2.move (i := i) (by simpa using hi)
  rw [List.set_comm _ _ (Ne.symm hij), List.set_comm _ _ (Ne.symm hij)] at f3
  exact f3
theorem FR.par3 {G : GC} {env : EvEnv} {σ : L2.St} {w : Wd} {H : Hp} {st : HSt} {i j l : Nat} {d1 d2 d3 : Bool × D} {v1 v2 v3 : V} (f : FR G w0 H0 (env ++ [some d1, some d2, some d3]) (σ ++ [some v1, some v2, some v3]) w H st) (hi : i < env.length) (hj : j < env.length) (hl : l < env.length) (hij : i ≠ j) (hil : i ≠ l) (hjl : j ≠ l) :
    FR G w0 H0 (((env.set i (some d1)).set j (some d2)).set l (some d3)) (((σ.set i (some v1)).set j (some v2)).set l (some v3)) w H st := by
  have len : env.length = σ.length := by have := f.len; simpa using this
  have f1 : FR G w0 H0 ((env ++ [some d1, some d2]) ++ [some d3]) ((σ ++ [some v1, some v2]) ++ [some v3]) w H st := by simpa using f
  have f2 := f1.move (i := l) (by simp; omega)
  rw [List.set_append_left _ _ hl, List.set_append_left _ _ (by omega)] at f2
  have f3 := FR.par2 (i := i) (j := j) f2 (by simpa using hi) (by simpa using hj) hij
  rw [List.set_comm _ _ (Ne.symm hil), List.set_comm _ _ (Ne.symm hil), List.set_comm (l := env.set i _) _ _ (Ne.symm hjl), List.set_comm (l := σ.set i _) _ _ (Ne.symm hjl)] at f3
  exact f3
theorem TPar.start {evp : EvEnv → HSt → R (List (Bool × D))} {f : EvEnv → List (Bool × D) → Option EvEnv} {D : Ends} {σ : L2.St} {H : Hp} {Q : List V → Hp → Prop} (h : (TSv (Gx X g) w0 H0 W <| fun env st => (evp env st).bindS fun ds st => match f env ds with | some env' => .nx env' st | none => .bad) D σ H)
    (k : ∀ env ds vs env' w1 H1 st1, FR (Gx X g) w0 H0 (env ++ ds.map some) (σ ++ vs.map some) w1 H1 st1 → env.length = σ.length → ds.length = vs.length → f env ds = some env' → (∀ σ' H2, FR (Gx X g) w0 H0 env' σ' w1 H2 st1 → Le w1 H1 w1 H2 → D.nx σ' H2) → Q vs H1) : TPar (Gx X g) w0 H0 W evp σ H Q := by
  obtain ⟨env, w, st, fr, y⟩ := h
  refine ⟨env, [], [], w, st, fr.len, rfl, by simpa using fr, ?_⟩
  dsimp only at y
  cases q : evp env st with
  | exc c s => rw [q] at y; exact fun w' H' x wr => y σ w' H' x wr
  | bad => rw [q] at y; exact y
  | ok ds s =>
    rw [q] at y
    dsimp only [R.bindS_ok] at y
    intro w' H' vs le f2 hl
    cases q2 : f env ds with
    | none => simp only [R.bindS_ok, q2] at y; exact y.elim
    | some env' =>
      simp only [R.bindS_ok, q2] at y
      exact k env ds vs env' w' H' s (by simpa using f2) fr.len hl q2 fun σ' H2 f3 l3 => y σ' w' H2 f3 (le.trans l3)
theorem nbeq {i j : Nat} (h : Nat.beq i j = false) : i ≠ j := fun e => by
  subst e
  have := Nat.beq_refl i
  rw [show Nat.beq i i = true from this] at h; cases h
theorem distinct2 {i j : Nat} (h : distinctN [i, j] = true) : i ≠ j := by
  simp [distinctN] at h; exact nbeq h
theorem distinct3 {i j l : Nat} (h : distinctN [i, j, l] = true) : i ≠ j ∧ i ≠ l ∧ j ≠ l := by
  simp [distinctN] at h; exact ⟨nbeq h.1.1, nbeq h.1.2, nbeq h.2⟩
theorem isNms_chkGs {N : List Str} {sc : Scope} {fb : Str → Bool} (hfb : ∀ x, fb x = isCell (lookN sc.names x)) : ∀ {ts : List Nat} {es : List Expr}, isNms N sc ts es = true → chkGs N sc fb (ts.map .nm) es = true
  | [], [], _ => rfl
  | [], _ :: _, h => by simp [isNms] at h
  | _ :: _, [], h => by simp [isNms] at h
  | i :: is, e :: es, h => by
    cases e <;> first | (simp [isNms] at h; done) | skip
    simp only [isNms, Bool.and_eq_true, Bool.or_eq_true] at h
    simp only [List.map_cons, chkGs, chkG, notStar, hfb, Bool.and_eq_true, Bool.or_eq_true, Bool.true_and]
    refine ⟨⟨h.1.1, ?_⟩, isNms_chkGs hfb h.2⟩
    rcases h.1.2 with z | z
    · exact .inl z
    · exact .inr ⟨z, z⟩
theorem setPar_len : ∀ {ts : List Nat} {ds : List (Bool × D)} {env env' : EvEnv}, setPar env ts ds = some env' → ts.length = ds.length
  | [], [], _, _, _ => rfl
  | [], _ :: _, _, _, h => by cases h
  | _ :: _, [], _, _, h => by cases h
  | t :: ts, d :: ds, env, env', h => by
    simp only [setPar] at h
    split at h
    · simp [setPar_len h]
    · cases h
theorem parKind_len {sc : Scope} {tl vl : List Expr} {b : Bool} (h : parKind sc tl vl = some b) : tl.length = 2 ∨ tl.length = 3 := by
  unfold parKind at h
  split at h
  · split at h
    · exact .inl rfl
    · exact .inr rfl
    · cases h
  · cases h
theorem s_par {ts : List Nat} {is : List (Bool × IE)} {tl vl : List Expr} {k1 k2 : Nat} {p1 p2 pos : Pos} (gd : GoodS X g ck con C N sc W k) (hn : isNms N sc ts tl = true) (hd : distinctN ts = true) (hp : chkPs ck N sc is vl = true) (hk : (parKind sc tl vl).isSome = true) (hlen : vl.length = tl.length) :
    PS X (.Assign [.Tuple tl k1 p1] (.Tuple vl k2 p2) pos) (TSv (Gx X g) w0 H0 W <| fun env st => (evPar (fun e st => evE con C (GN.td g) env e st) is st).bindS fun ds st => match setPar env ts ds with | some env' => .nx env' st | none => .bad) := by
  have hN : X.N.Nodup := by rw [gd.hN]; exact gd.nd
  have ha := a_par (w0 := w0) (H0 := H0) gd.toGood is vl hp
  have hstar := (chkPs_len hp).2
  have hkn := gd.hs
  cases hk2 : parKind sc tl vl with
  | none => rw [hk2] at hk; cases hk
  | some b =>
    cases b with
    | true =>
      have hk3 := hk2
      unfold parKind at hk3
      split at hk3
      · split at hk3
        · rename_i h0 x px y py
          have hloc : isLocal (lookN sc.names x) = true ∧ isLocal (lookN sc.names y) = true := by
            split at hk3
            · rename_i h1; simpa using h1
            · cases hk3
          match ts, hn, hd with
          | [i, j], hn, hd =>
            simp only [isNms, Bool.and_eq_true] at hn
            have hij := distinct2 hd
            match vl, hlen with
            | [a, b], _ =>
              refine PS.imp (ps_par gd.calm hN (by rw [gd.hN]; exact slotB_ok hn.1.1) (by rw [gd.hN]; exact slotB_ok hn.2.1.1) hij (kindLoc hkn hloc.1) (kindLoc hkn hloc.2) ha (swapped2 hkn hk2)) fun D σ H h => ?_
              refine TPar.start h fun env ds vs env' w1 H1 st1 f hl1 hl2 e fin => ?_
              obtain ⟨d1, d2, rfl, hi, hj, rfl⟩ := setPar2 e
              match vs, hl2, f with
              | [v1, v2], _, f => exact ⟨v1, v2, rfl, fin _ _ (FR.par2 f hi hj hij) .refl⟩
          | [], hn, _ => simp [isNms] at hn
          | [_], hn, _ => simp [isNms] at hn
          | _ :: _ :: _ :: _, hn, _ => simp [isNms] at hn
        · rename_i h0 x px y py z pz
          have hloc : (isLocal (lookN sc.names x) = true ∧ isLocal (lookN sc.names y) = true) ∧ isLocal (lookN sc.names z) = true := by
            split at hk3
            · rename_i h1; simpa using h1
            · cases hk3
          match ts, hn, hd with
          | [i, j, l], hn, hd =>
            simp only [isNms, Bool.and_eq_true] at hn
            obtain ⟨hij, hil, hjl⟩ := distinct3 hd
            match vl, hlen with
            | [a, b, c], _ =>
              refine PS.imp (ps_par3 gd.calm hN (by rw [gd.hN]; exact slotB_ok hn.1.1) (by rw [gd.hN]; exact slotB_ok hn.2.1.1) (by rw [gd.hN]; exact slotB_ok hn.2.2.1.1) hij hil hjl (kindLoc hkn hloc.1.1) (kindLoc hkn hloc.1.2) (kindLoc hkn hloc.2) ha (swapped3 hkn hk2)) fun D σ H h => ?_
              refine TPar.start h fun env ds vs env' w1 H1 st1 f hl1 hl2 e fin => ?_
              obtain ⟨d1, d2, d3, rfl, hi, hj, hl, rfl⟩ := setPar3 e
              match vs, hl2, f with
              | [v1, v2, v3], _, f => exact ⟨v1, v2, v3, rfl, fin _ _ (FR.par3 f hi hj hl hij hil hjl) .refl⟩
          | [], hn, _ => simp [isNms] at hn
          | [_], hn, _ => simp [isNms] at hn
          | [_, _], hn, _ => simp [isNms] at hn
          | _ :: _ :: _ :: _ :: _, hn, _ => simp [isNms] at hn
        · cases hk3
      · cases hk3
    | false =>
      obtain ⟨g1, g2, g3⟩ := gs_ok (fb := fun x => isCell (lookN sc.names x)) gd.hN gd.nd hkn gd.calm (fun x _ => gd.fnc x) (ts.map .nm) tl (isNms_chkGs (fun _ => rfl) hn)
      obtain ⟨b1, b2⟩ := assignEach_len X tl g2
      have hG : PG X (.Tuple tl k1 p1) (gTup X.K tl.length (gTs X.K (ts.map .nm))) := pg_tup gd.calm g1 b1 b2
      have hlt := isNms_len hn
      refine PS.imp (ps_asg (pe_tupF ha) hG rfl (unswapped hkn hk2 hlen) rfl) fun D σ H h => ?_
      refine TPar.start h fun env ds vs env' w1 H1 st1 f hl1 hl2 e fin => ?_
      have big : vs.length ≤ sizeLine := by
        have : ds.length ≤ 3 := by
          have z : tl.length = 2 ∨ tl.length = 3 := parKind_len hk2
          have z2 := setPar_len e
          omega
        rw [sizeLine_eq]; omega
      refine ⟨big, fun p o hp ho => ⟨p, vs, rfl, .inl (.inr ⟨o, upd_same⟩), by rw [← hl2, ← hlt]; exact (setPar_len e).symm, ?_⟩⟩
      have le : Le w1 H1 w1 (upd H1 p (.frz o (.tup vs))) := ⟨fun _ h => h, fun a h => by rw [upd_ne (fun z => f.wr.fz a h (by rw [z]; exact hp))], fun _ _ h => h⟩
      have f' := f.lay (o := .frz o (.tup vs)) hp
      have z : tl.length = 2 ∨ tl.length = 3 := parKind_len hk2
      rcases z with z | z
      · match ts, hn, hd, hlt, e with
        | [i, j], hn, hd, _, e =>
          have hij := distinct2 hd
          obtain ⟨d1, d2, rfl, hi, hj, rfl⟩ := setPar2 e
          match vs, hl2, f' with
          | [v1, v2], _, f' => exact ⟨v1, [v2], rfl, v2, [], rfl, rfl, fin _ _ (FR.par2 f' hi hj hij) le⟩
        | [], hn, _, hlt, _ => simp at hlt; omega
        | [_], hn, _, hlt, _ => simp at hlt; omega
        | _ :: _ :: _ :: _, hn, _, hlt, _ => simp at hlt; omega
      · match ts, hn, hd, hlt, e with
        | [i, j, l], hn, hd, _, e =>
          obtain ⟨hij, hil, hjl⟩ := distinct3 hd
          obtain ⟨d1, d2, d3, rfl, hi, hj, hl, rfl⟩ := setPar3 e
          match vs, hl2, f' with
          | [v1, v2, v3], _, f' => exact ⟨v1, [v2, v3], rfl, v2, [v3], rfl, v3, [], rfl, rfl, fin _ _ (FR.par3 f' hi hj hl hij hil hjl) le⟩
        | [], hn, _, hlt, _ => simp at hlt; omega
        | [_], hn, _, hlt, _ => simp at hlt; omega
        | [_, _], hn, _, hlt, _ => simp at hlt; omega
        | _ :: _ :: _ :: _ :: _, hn, _, hlt, _ => simp at hlt; omega
theorem s_retE {e : Expr} {pos : Pos} {ea : EvEnv → HSt → R D} (he : PE X e (TEv (Gx X g) w0 H0 W <| ea)) : PS X (.Return (some e) pos) (TSv (Gx X g) w0 H0 W <| fun env st => (ea env st).bindS fun d st => .rt d st) := s_ret he
theorem noSwap_name {sc : Scope} {v : Expr} {x : Str} {p : Pos} (h : noSwap sc v (.Name x p) = true) : True := trivial
theorem chkSS_cons {i : SI} {is : SS} {ss : List Stmt} {sc : Scope} (h : chkSS ck N sc (.cons i is) ss = true) : (∃ j, i = .frz j ∧ chkSS ck N sc is ss = true) ∨ ∃ s ss', ss = s :: ss' ∧ chkS ck N sc i s = true ∧ chkSS ck N sc is ss' = true := by
  simp only [chkSS] at h
  split at h
  · rename_i hf
    cases i <;> first | exact .inl ⟨_, rfl, h⟩ | exact absurd hf Bool.false_ne_true
  · cases ss with
    | nil => cases h
    | cons s ss =>
      simp only [Bool.and_eq_true] at h
      exact .inr ⟨s, ss, rfl, h.1, h.2⟩
mutual
theorem sS : ∀ (i : SI) {X : Cx} {sc : Scope} {W : WX} (gd : GoodS X g ck con C N sc W k) (fu : Nat) (s : Stmt), chkS ck N sc i s = true → PS X s (TSv (Gx X g) w0 H0 W fun env st => evS con C (GN.td g) fu env i st)
  | .set t e, X, sc, W, gd, fu, s, h => by
    simp only [chkS] at h
    split at h <;> first | cases h | simp only [Bool.and_eq_true] at h
    exact s_set gd h.1.1.1 h.1.1.2 h.1.2 (sE e gd.toGood _ h.2)
  | .setO i e, X, sc, W, gd, fu, s, h => by
    simp only [chkS] at h
    split at h <;> first | cases h | simp only [Bool.and_eq_true] at h
    rename_i x px v p
    obtain ⟨⟨⟨h1, h2⟩, h3⟩, h4⟩ := h
    split at h4
    · rename_i elt gens scp pv
      cases e with
      | lc own t src el =>
        have h5 := h3
        simp only [chkE] at h5
        split at h5 <;> first | cases h5 | skip
        rename_i heq
        cases heq
        simp only [Bool.and_eq_true] at h5
        obtain ⟨⟨⟨⟨⟨c1, c2⟩, c3⟩, c4⟩, c5⟩, c6⟩ := h5
        obtain ⟨wk, hw, hi⟩ := sI (w0 := w0) (H0 := H0) (con := con) (C := C) src gd.toGood _ _ t c2 c5
        exact s_setLc gd h2 hi c1 (fun s H C' cl fp => gd.toGood.blkG c2 s H C' cl fp) (fun s H C' cl fp => pts_nil) (fun s H C' cl fp => sE el (gd.toGood.blk s H _ C' cl fp) _ c6) c4
          fun σ H Q h => lc_start (tt := tYes) (fun _ _ => rfl) hw c3 (fun σ H P env' w st b st' fr e k => by cases e; exact k w H fr .refl) h
      | lcf own t src el cond =>
        have h5 := h3
        simp only [chkE] at h5
        split at h5 <;> first | cases h5 | skip
        rename_i heq
        cases heq
        simp only [Bool.and_eq_true] at h5
        obtain ⟨⟨⟨⟨⟨⟨⟨c1, c2⟩, c3⟩, c4⟩, c5⟩, c6⟩, c7⟩, c8⟩ := h5
        obtain ⟨wk, hw, hi⟩ := sI (w0 := w0) (H0 := H0) (con := con) (C := C) src gd.toGood _ _ t c2 c5
        refine s_setLc (tt := TBv (Gx X g) w0 H0 (fun _ _ _ _ => False) fun env st => evE con C (GN.td g) env cond st) gd h2 hi c1 (fun s H C' cl fp => gd.toGood.blkG c2 s H C' cl fp) (fun s H C' cl fp => pts_one (sT cond (gd.toGood.blk s H _ C' cl fp) _ c8 c7 (sE cond (gd.toGood.blk s H _ C' cl fp) _ c8))) (fun s H C' cl fp => sE el (gd.toGood.blk s H _ C' cl fp) _ c6) c4
          fun σ H Q h => lc_start (fun _ _ => rfl) hw c3 (fun σ H P env' w st b st' fr e k => ?_) h
        refine T.val (a := b) (st1 := st') fr (by dsimp only; rw [e]; rfl) fun b' w1 H1 f1 x1 r => ?_
        have r : b = b' := r
        subst r
        exact k w1 H1 f1 x1
      | _ => first | exact absurd h1 Bool.false_ne_true | (simp [chkE] at h3; done)
    · exact s_setO gd h2 h4 (sO gd.toGood e _ h1 h3)
  | .par ts es, X, sc, W, gd, fu, s, h => by
    simp only [chkS] at h
    split at h <;> first | cases h | simp only [Bool.and_eq_true] at h
    obtain ⟨⟨⟨⟨h1, h2⟩, h3⟩, h4⟩, h5⟩ := h
    exact s_par gd h1 h2 h3 h4 (Nat.eq_of_beq_eq_true h5)
  | .app i e, X, sc, W, gd, fu, s, h => by
    simp only [chkS] at h
    split at h <;> first | cases h | simp only [Bool.and_eq_true] at h
    obtain ⟨⟨⟨⟨h1, h2⟩, h3⟩, h4⟩, h5⟩ := h
    exact s_app gd h1 h2 h3 h4 (sE e gd.toGood _ h5)
  | .pop t i, X, sc, W, gd, fu, s, h => by
    simp only [chkS] at h
    split at h <;> first | cases h | simp only [Bool.and_eq_true] at h
    obtain ⟨⟨⟨h1, h2⟩, h3⟩, h4⟩ := h
    exact s_pop gd h1 h2 h3 h4
  | .put i k' v, X, sc, W, gd, fu, s, h => by
    simp only [chkS] at h
    split at h <;> first | cases h | simp only [Bool.and_eq_true] at h
    obtain ⟨⟨⟨⟨h1, h2⟩, h3⟩, h4⟩, h5⟩ := h
    exact s_put gd h1 h2 h3 (sE k' gd.toGood _ h4) (sE v gd.toGood _ h5)
  | .putH o k' v, X, sc, W, gd, fu, s, h => by
    simp only [chkS] at h
    split at h <;> first | cases h | simp only [Bool.and_eq_true] at h
    obtain ⟨⟨⟨⟨h1, h2⟩, h3⟩, h4⟩, h5⟩ := h
    exact s_putH gd h1 h2 (sE o gd.toGood _ h3) (sE k' gd.toGood _ h4) (sE v gd.toGood _ h5)
  | .exp e, X, sc, W, gd, fu, s, h => by
    simp only [chkS] at h
    split at h <;> first | cases h | simp only [Bool.and_eq_true] at h
    exact s_exp h.1 (sE e gd.toGood _ h.2)
  | .ret e, X, sc, W, gd, fu, s, h => by
    simp only [chkS] at h
    split at h <;> first | cases h | skip
    · exact s_ret (sE e gd.toGood _ h)
    · split at h <;> first | cases h | skip
      exact s_retN
  | .raise c, X, sc, W, gd, fu, s, h => by
    simp only [chkS] at h
    split at h <;> first | cases h | simp only [Bool.and_eq_true] at h
    exact s_raise gd h.1 h.2
  | .iff c a b, X, sc, W, gd, fu, s, h => by
    simp only [chkS] at h
    split at h <;> first | cases h | simp only [Bool.and_eq_true] at h
    obtain ⟨⟨⟨h1, h2⟩, h3⟩, h4⟩ := h
    exact s_if (sT c gd.toGood _ h2 h1 (sE c gd.toGood _ h2)) (sSS a gd fu _ h3) (sSS b gd fu _ h4)
  | .for_ t src b, X, sc, W, gd, fu, s, h => by
    simp only [chkS] at h
    split at h <;> first | cases h | simp only [Bool.and_eq_true] at h
    obtain ⟨⟨⟨⟨h1, h2⟩, h3⟩, h4⟩, h5⟩ := h
    obtain ⟨wk, hw, hi⟩ := sIL src gd.toGood _ _ t h1 h4 h3
    exact s_for gd h1 h2 hw hi (sSS b gd fu _ h5)
  | .whl c b, X, sc, W, gd, fu, s, h => by
    simp only [chkS] at h
    split at h <;> first | cases h | simp only [Bool.and_eq_true] at h
    obtain ⟨⟨h1, h2⟩, h3⟩ := h
    exact s_whl gd (sT c gd.toGood _ h2 h1 (sE c gd.toGood _ h2)) (sSS b gd fu _ h3)
  | .frz _, X, sc, W, gd, fu, s, h => by simp [chkS] at h
theorem sSS : ∀ (i : SS) {X : Cx} {sc : Scope} {W : WX} (gd : GoodS X g ck con C N sc W k) (fu : Nat) (ss : List Stmt), chkSS ck N sc i ss = true → PSs X ss (TSv (Gx X g) w0 H0 W fun env st => evSS con C (GN.td g) fu env i st)
  | .nil, X, sc, W, gd, fu, ss, h => by
    cases ss with
    | nil => exact ss_nil
    | cons s ss => simp [chkSS] at h
  | .cons i is, X, sc, W, gd, fu, ss, h => by
    rcases chkSS_cons h with ⟨j, e, h2⟩ | ⟨s, ss', e, h2, h3⟩
    · have q := ss_frz (i := j) (sSS is gd fu ss h2)
      rw [e]
      exact q
    · rw [e]
      exact ss_cons (sS i gd fu s h2) (sSS is gd fu ss' h3)
end
end
end Ev
namespace Ev
open PySem PySem.Spec PyProof.Rows L2
/-! ### defs -/
structure FD where
  name : Str
  N : List Str
  ps : List Str
  body : SS
def startE (n : Nat) (ds : List D) : EvEnv := ds.map (fun d => some (false, d)) ++ List.replicate (n - ds.length) none
def RS.out : RS → R D
  | .nx _ st => .ok .non st
  | .rt d st => .ok d st
  | .exc c st => .exc c st
  | .bad => .bad
def runD (con : Nat → Option D) (C : CT) (TD : Nat → Nat → Option D) (fu : Nat) (d : FD) (ds : List D) (st : HSt) : R D :=
  if Nat.beq ds.length d.ps.length then (evSS con C TD fu (startE d.N.length ds) d.body st).out else .bad
def evC (tab : Nat → Option FD) (con : Nat → Option D) (TD : Nat → Nat → Option D) (fu : Nat) : Nat → CT
  | 0, _, _, _ => .bad
  | n + 1, f, ds, st => match tab f with
    | some d => runD con (evC tab con TD fu n) TD fu d ds st
    | none => .bad
/-- a def's text is what the small language says -/
structure FnC (ck : CKS) (d : FD) (st : Stmt) : Prop where
  sc : FnScope d.N d.ps (defScope st)
  chk : chkSS ck d.N (defScope st) d.body (defBody st) = true
  bnd : ∀ (kV doc pm : Value) (an : Option Addr) (cdv ct : Value) (us : List Value), us.length = d.ps.length → bindArgs (PySem.W.fnOf d.name d.name (defArgs st) (defBody st) (defScope st) .none kV doc pm an cdv ct) ⟨us, []⟩ = pure (d.ps.zip us)
section
variable {G : GC} {w : Wd} {H : Hp} {st : HSt}
theorem start_fr {N : List Str} {ds : List D} {vs : List V} (wr : WRel G w H st) (r : RepAll G w H ds vs) : FR G w H (startE N.length ds) (L2.start N vs) w H st := by
  have hl := r.length
  refine ⟨.refl, wr, by unfold startE L2.start; simp [hl], fun i s h => ?_, fun i j d e hij h1 h2 => ?_⟩
  · unfold startE at h
    by_cases hi : i < ds.length
    · rw [List.getElem?_append_left (by simpa using hi), List.getElem?_map] at h
      cases q : ds[i]? with
      | none => rw [q] at h; cases h
      | some d =>
        rw [q] at h
        cases h
        obtain ⟨v, e, rv⟩ := r.get q
        refine ⟨v, ?_, rv⟩
        unfold L2.start
        rw [List.getElem?_append_left (by simp; omega), List.getElem?_map, e]; rfl
    · rw [List.getElem?_append_right (by simpa using hi)] at h
      have := List.mem_of_getElem? h
      have := List.eq_of_mem_replicate this
      cases this
  · unfold startE at h1
    by_cases hi : i < ds.length
    · rw [List.getElem?_append_left (by simpa using hi), List.getElem?_map] at h1
      cases q : ds[i]? with
      | none => rw [q] at h1; cases h1
      | some d => rw [q] at h1; cases h1
    · rw [List.getElem?_append_right (by simpa using hi)] at h1
      have := List.mem_of_getElem? h1
      have := List.eq_of_mem_replicate this
      cases this
end
/-- a lambda's name within a def -/
def lamQ (x : Str) : Str := x ++ ".<locals>." ++ "<lambda>"
def CKS.at (ck : CKS) (b : Bool) : CKS := { ck with lam := b }
/-- what is known of a table of defs; lm: the defs that make lambdas -/
structure Wld (P : Program) (w : World) (K : PySem.W.Frag) (mg : Str → Option Value) (base : Heap) (g : GN) (ck : CKS) (con : Nat → Option D) (tab : Nat → Option FD) (lm : Nat → Bool) (sts : Nat → Stmt) (fds : Nat → FuncData) : Prop where
  has : ∀ f, ck.has f = true → ∃ d, tab f = some d ∧ ck.fn f = d.name
  fn : ∀ f d, tab f = some d → FnC (ck.at (lm f)) d (sts f) ∧ FunD K d.name d.name (defArgs (sts f)) (defBody (sts f)) (defScope (sts f)) [] [] (He.ga K d.name) (fds f) ∧ mg d.name = some (.ref (He.ga K d.name))
  exc : ∀ c, ck.xhas c = true → mg (ck.xn c) = some (.ref (g.cls c)) ∧ PySem.W.keepIn K (.ref (g.cls c)) = true ∧ PySem.W.excIn K (g.cls c) [.type "ValueError", .type "Exception", .type "BaseException", .type "object"] "ValueError.__new__" = true ∧
    PySem.W.subIn K (.ref (g.cls c)) (.type "BaseException") = some true ∧ PySem.W.typeIn K (.ref (g.cls c)) = some (.type "type")
  bi : ∀ b : BI, mg (biN b) = none
  isi : mg "isinstance" = none
  enum : mg "enumerate" = none
  zip : mg "zip" = none
  range : mg "range" = none
  bool : mg "bool" = none
  con : ∀ (k : Nat) (d : D), con k = some d → ∃ v u, mg (ck.cn k) = some u ∧ RelV v u ∧ ∀ w H, Rep ⟨K, g.cls, g.fnm, g.T⟩ w H d v
  kd : ∀ j hits miss, ck.kd j hits miss = true → KdAt K w mg (ck.dn j) hits miss
  set_ : mg "set" = none
  lam : ∀ f d, tab f = some d → lm f = true → LamX.TabB base mg (He.codeOf K (d.name, none)) (He.tabOf K (He.codeOf K (d.name, none))) ∧ (He.tabOf K (He.codeOf K (d.name, none)), lamQ d.name) ∈ g.T ∧ ∀ p ∈ g.T, p.1 = He.tabOf K (He.codeOf K (d.name, none)) → p.2 = lamQ d.name
  told : ∀ j, ck.tld j = true → ∀ X : Cx, X.prog = P → X.w = w → X.K = K → X.mg = mg → X.base = base → Room 2 X.A → ToldAt X g (g.td j) (ck.tn j)
theorem fn_level {P : Program} {w : World} {K : PySem.W.Frag} {mg : Str → Option Value} {base : Heap} {g : GN} {ck : CKS} {con : Nat → Option D} {tab : Nat → Option FD} {lm : Nat → Bool} {sts : Nat → Stmt} {fds : Nat → FuncData} {fu : Nat}
    (W : Wld P w K mg base g ck con tab lm sts fds) : ∀ (n f : Nat) (d : FD), tab f = some d → FnOk P w K mg base (L2N.CX P w) (3 * n) (He.ga K d.name) (fds f) d.ps (spC ⟨K, g.cls, g.fnm, g.T⟩ (evC tab con g.td fu n) f d.ps.length)
  | 0, f, d, h => ⟨fun vs H Q E ⟨w, st, ds, wr, r, hl, y⟩ => hl, fun A outer s H args us vs Q E _ _ _ _ ⟨w, st, ds, wr, r, hl, y⟩ => y.elim⟩
  | k + 1, f, d, h => by
    obtain ⟨c, F, hm⟩ := W.fn f d h
    obtain ⟨oc, od, dV, kV, doc, pm, an, cdv, ct, osl, efd, lk, hcd, _, _⟩ := F.ex
    have body : ∀ (A : Around) (outer : List Env) (s : Shared) (H : Hp) (vs : List V) (Q : VK) (E : XK), Room (3 * k + 2) (A.deeper (envOfC d.name (defScope (sts f)) s.heap.objs.size (He.ga K d.name) cdv)) → spC ⟨K, g.cls, g.fnm, g.T⟩ (evC tab con g.td fu (k + 1)) f d.ps.length vs H Q E →
        ∃ t, PSs (cxOf (L2N.CX P w) P w K mg base d.N d.name (defScope (sts f)) (He.ga K d.name) cdv A outer s H E) (defBody (sts f)) t ∧ t { nx := fun _ H' => Q .non H', rt := Q } (L2.start d.N vs) H := by
      intro A outer s H vs Q E hr ⟨w0, st, ds, wr, r, hl, y⟩
      generalize hX : cxOf (L2N.CX P w) P w K mg base d.N d.name (defScope (sts f)) (He.ga K d.name) cdv A outer s H E = X
      have gd : GoodS X g (ck.at (lm f)) con (evC tab con g.td fu k) d.N (defScope (sts f)) (fun cls dd _ H => E cls dd H) (3 * k) := by
        subst hX
        exact {
          hN := rfl
          nd := c.sc.nd
          hs := rfl
          calm := rfl
          room := hr.mono (by omega)
          tk := L2N.takes_of rfl rfl rfl rfl
          mg := ⟨W.bi, W.isi, W.enum, W.zip, W.range, W.bool, W.con, W.kd, W.set_⟩
          fn := fun f' hf => by
            obtain ⟨d', e1, e2⟩ := W.has f' hf
            obtain ⟨c', F', hm'⟩ := W.fn f' d' e1
            refine ⟨He.ga K d'.name, fds f', d'.ps, by rw [show (ck.at (lm f)).fn f' = d'.name from e2]; exact hm', F'.kp, F'.bindsN c'.bnd, fun ds st hb => ?_, fn_level W k f' d' e1⟩
            cases k with
            | zero => exact absurd rfl hb
            | succ k =>
              unfold evC at hb
              rw [e1] at hb
              unfold runD at hb
              dsimp only at hb
              split at hb
              · rename_i hh; exact Nat.eq_of_beq_eq_true hh
              · exact absurd rfl hb
          lamOk := fun hl => by
            have hl : lm f = true := hl
            obtain ⟨t1, t2, t3⟩ := W.lam f d h hl
            obtain ⟨cd, ecd⟩ := He.codeIn_ref hcd
            have ec : He.codeOf K (d.name, none) = cd := He.codeOf_eq lk (by rw [efd]; exact ecd)
            refine ⟨hr, ⟨He.codeOf K (d.name, none), He.tabOf K (He.codeOf K (d.name, none)), t1, ?_, t2, t3⟩, fun j hj => W.told j hj _ rfl rfl rfl rfl rfl (hr.mono (by omega))⟩
            rw [ec]; exact ecd
          po := passes_of rfl
          fnc := fun _ => rfl
          exc := W.exc }
      have key := sSS (w0 := w0) (H0 := H) d.body gd fu (defBody (sts f)) c.chk
      refine ⟨_, key, startE d.N.length ds, w0, st, by subst hX; exact start_fr wr r, ?_⟩
      have y' : YlF ⟨K, g.cls, g.fnm, g.T⟩ w0 H (runD con (evC tab con g.td fu k) g.td fu d ds st) Q E := by
        have e : evC tab con g.td fu (k + 1) f ds st = runD con (evC tab con g.td fu k) g.td fu d ds st := by
          show (match tab f with | some d => _ | none => _) = _
          rw [h]
        rw [← e]; exact y
      subst hX
      unfold runD at y'
      split at y'
      · dsimp only
        cases q : evSS con (evC tab con g.td fu k) g.td fu (startE d.N.length ds) d.body st with
        | nx env st' =>
          rw [q] at y'
          exact fun σ' w' H' fr _ => y' w' H' .non fr.ext fr.wr .non
        | rt d st' =>
          rw [q] at y'
          exact fun w' H' v x wr r => y' w' H' v x wr r
        | exc c st' =>
          rw [q] at y'
          exact fun σ' w' H' x wr => y' w' H' x wr
        | bad => rw [q] at y'; exact y'
      · exact y'.elim
    have key := fn_of (CX := L2N.CX P w) (mg := mg) (base := base) (k := 3 * k + 2) (by rw [← efd]; exact lk) hcd c.sc (fun vs H Q E ⟨w, st, ds, wr, r, hl, y⟩ => hl) body
    rw [efd]
    exact key
end Ev
namespace Ev
open PySem PySem.Spec PyProof.Rows L2
/-! ### while an exception is handled -/
section
variable {prog : Program} {w : World} {A : Around} {E : Value → Shared → Prop} {s : Shared}
/-- a list's end -/
theorem lend_hot {it l x1 : Addr} {i : Nat} {items : Array Value} {Q : Option Value → Shared → Prop} (hot : HotX.HotAt A x1 s.heap) (hne : x1 ≠ it) (hit : s.heap.IsListIter it l i) (hl : s.heap.IsList l items) (hx : items[i]? = none)
    (hQ : ∀ h', Heap.ExtBut it s.heap h' → Q none { s with heap := h' }) : wpAny (model prog w) A (pyNext (.ref it)) Q E s := by
  obtain ⟨o, ho, hc, hd⟩ := id hit
  obtain ⟨ol, hol, _, nl, hdl⟩ := hl
  obtain ⟨hh, o1, vs1, h1, d1, c1⟩ := hot
  unfold pyNext
  refine wpAny_bind (wpAny_attempt (wpAny_callSpecial?_slot (name := Str.ofString "__next__") hit.typeIs slot_listiter_next (wpAny_call_entry slot_listiter_next hit.typeIs entry_listiter_next ?_ (args_listiter_next _))))
  show wpAny _ _ (field (.ref it) 0 >>= _) _ _ s
  refine wpAny_bind (wpAny_field ho hd (x := .ref l) rfl ?_)
  show wpAny _ _ (if (Value.ref l == Value.none) = true then _ else _) _ _ s
  rw [if_neg (show ¬ ((Value.ref l == Value.none) = true) from Bool.false_ne_true)]
  show wpAny _ _ (field (.ref it) 1 >>= _) _ _ s
  refine wpAny_bind (wpAny_field ho hd (x := .int i 0) rfl ?_)
  show wpAny _ _ (seqItems? (.ref l) >>= _) _ _ s
  refine wpAny_bind (wpAny_seqItems hol hdl ?_)
  simp only [Int.toNat_natCast, hx]
  refine wpAny_bind (wpAny_rule (wpAny_bind (wpAny_setField ho hd (by simp) ?_)))
  show wpAny _ _ (newExc (.type "StopIteration") [] >>= _) _ _ _
  refine wpAny_bind ?_
  simp only [newExc, newTuple]
  refine wpAny_bind (wpAny_newObj_type ?_ (by size_fits))
  refine wpAny_bind (m := firstArgMember _ _) (wpAny_of_eq (a := Value.none) (by first | rfl | (simp only [firstArgMember]; rfl)) ?_)
  refine wpAny_newObj_type ?_ (by size_fits)
  have k1 := (Heap.get?_update_other s.heap (Obj.mapFields fun x => x.setIfInBounds 0 Value.none) (Ne.symm hne)).trans h1
  refine HotX.raiseNew_hot ⟨hh, o1, vs1, Heap.get?_push_of_some _ (Heap.get?_push_of_some _ k1), d1, c1⟩ (Nat.ne_of_lt (Heap.lt_size (Heap.get?_push_of_some _ k1))) (Heap.get?_push_size _ rfl) rfl (by first | (simp; done) | (simp; omega) | (simp only [Array.size_append]; simp; omega)) ?_
  refine wpAny_bind (wpAny_isInstance (T := "StopIteration") (b := true) ⟨_, Heap.get?_update_self _ (Heap.get?_push_size _ rfl) rfl, rfl⟩ isSubtype_stop ?_)
  refine wpAny_pure (hQ _ ?_)
  intro b o hb e
  have kb := (Heap.get?_update_other s.heap (Obj.mapFields fun x => x.setIfInBounds 0 Value.none) (Ne.symm hb)).trans e
  rw [Heap.get?_update_other _ _ (Nat.ne_of_gt (Heap.lt_size (Heap.get?_push_of_some _ kb)))]
  exact Heap.get?_push_of_some _ (Heap.get?_push_of_some _ kb)
/-- a list's turns -/
theorem walks_hot {x1 : Addr} {o1 : Obj} {vs1 : Array Value} (hh : A.handled = some (.ref x1)) (d1 : o1.data = .fields vs1) (c1 : vs1[2]? = some .none) (it ax : Addr) (hne : ax ≠ it) (hx : x1 ≠ it) (items : Array Value) :
    Walks prog w A it [it, ax, x1] [it] items.size (fun i v => items[i]? = some v) (fun i h => h.IsListIter it ax i ∧ h.IsList ax items ∧ h.get? x1 = some o1) where
  sub := fun b hb => by simp at hb; simp [hb]
  frame := fun _ _ _ st hk => ⟨st.1.at fun o e => hk it (by simp) o e, st.2.1.at fun o e => hk ax (by simp) o e, hk x1 (by simp) _ st.2.2⟩
  item := fun i s Q E hi st hQ => by
    refine wpAny_pyNext_list_item st.1 st.2.1 (x := items[i]) (by simp [hi]) fun h' hit' hs' => ?_
    exact hQ _ h' s.toks (by simp [hi]) ⟨hit', st.2.1.extBut hs'.extBut hne, hs'.extBut x1 _ hx st.2.2⟩ fun b o hb e => hs'.extBut b o (fun h => hb (by simp [h])) e
  done := fun s Q E st hQ => lend_hot ⟨hh, o1, vs1, st.2.2, d1, c1⟩ hx st.1 st.2.1 (by simp) fun h' he' => hQ h' s.toks fun b o hb e => he' b o (fun h => hb (by simp [h])) e
  self := fun _ _ _ _ st hQ => wpAny_pyIter_listiter st.1 hQ
end
/-- the exception that is handled stays where it is, through a block -/
structure HotBy (A : Around) (outer : List Env) (ex : List Addr) (H0 : Hp) (s0 : Shared) (p : Addr × Obj) : Prop where
  hot : L2H.Hot1 A p
  get : s0.heap.get? p.1 = some p.2
  free : H0 p.1 = none
  nofs : p.1 ∉ frs outer
  noex : p.1 ∉ ex
theorem HotBy.at {X : Cx} {pins : List (Addr × Obj)} {σ : L2.St} {H : Hp} {s : Shared} {p : Addr × Obj} (h : HotBy X.A X.outer X.ex X.H_0 X.s_0 p) (I : Inv X pins σ H s) : s.heap.get? p.1 = some p.2 :=
  I.base.keep p.1 p.2 h.get h.free h.nofs h.noex
section
variable {X : Cx}
/-- [f(x) for x in a list], while an exception is handled -/
def tLcH (t : TE) (f : V → V) : TE := fun σ H Q => t σ H fun v H1 => ∃ (a : Addr) (xs : List V), v = .ref a ∧ SqL X.K H1 a xs ∧ xs.length < 1000 ∧ ∀ D, H1 D = none → Q (.ref D) (upd H1 D (.lst (xs.map f)))
theorem pe_lcH {elt iter : Expr} {scope : Scope} {own : List (Str × Nat)} {y : Str} {py pos : Pos} {i : Nat} {t te : TE} {f : V → V} {PV : V → Prop} {p : Addr × Obj} (hot : L2H.Hot1 X.A p) (hp : p ∈ X.pn) (hN : X.N.Nodup) (hi : PE X iter t) (ok : BlkOk X.N X.env.scope scope own)
    (hy : X.N[i]? = some y) (hown : i ∈ own.map (·.2)) (hyl : (relS scope X.env.scope).names.lookup y = some .local)
    (he : ∀ (s : Shared) (H : Hp) (C : Addr) (cl : List (Str × Addr)) (fp : List Addr), PE (X.blk s H scope (compEnvC scope cl C X.env) fp) elt te)
    (hf : ∀ (σ : L2.St) (x : V) (H : Hp) (Q : VK), PV x → σ[i]? = some (some x) → Q (f x) H → te σ H Q) (hs : ∀ x, foldedSetIterable iter X.env x = pure x) :
    PE X (.ListComp elt [⟨.Name y py, iter, [], 0⟩] scope pos) (fun σ H Q => t σ H fun v H1 => ∃ (a : Addr) (xs : List V), v = .ref a ∧ SqL X.K H1 a xs ∧ xs.length < 1000 ∧ (∀ x ∈ xs, PV x) ∧ ∀ D, H1 D = none → Q (.ref D) (upd H1 D (.lst (xs.map f)))) := by
  constructor
  intro pins s σ H Q I hh
  rw [eval_ListComp]
  have hfree : ∀ z ∈ scope.names, z.2 = .free → ∃ c, X.env.cells.lookup z.1 = some c := fun z hz e => by
    rcases ok.free z hz e with k | k
    · exact I.ok.has _ (.inl k)
    · exact I.ok.has _ (.inr k)
  refine wpAny_comprehension_free (use := none) rfl hs (closure_ok hfree) ok.kind (fun z hz e => by rw [ok.uniq z hz, e]) (thn (hi.run pins s σ H _ I hh) fun xv s1 hx1 => ?_)
  obtain ⟨v, H1, I1, r1, a, xs, ev, hq, hx, hpv, hQ⟩ := hx1
  subst ev
  obtain rfl : xv = Value.ref a := r1
  obtain ⟨its, rv, pl, hz⟩ := I1.list hq
  refine wpAny_pyIter_list pl.isList ?_
  generalize hit : s1.heap.objs.size = it
  generalize hob : ({ cls := .type "list_iterator", data := .fields #[.ref a, .int 0 0] } : Obj) = ob
  have I2 : Inv X pins σ H1 { s1 with heap := s1.heap.push ob } := I1.kept (t' := s1.toks) fun b o e => Heap.get?_push_of_some _ e
  have st2 : (s1.heap.push ob).IsListIter it a 0 := by rw [← hob, ← hit]; exact ⟨_, Heap.get?_push_size _ rfl, rfl, rfl⟩
  have nit : H1 it = none := I1.hok.fresh (Nat.le_of_eq hit)
  have f2 : FpOk X pins H1 it := I1.fpOk (Nat.le_of_eq hit) nit
  have ilt : it < (s1.heap.push ob).objs.size := by rw [Heap.size_push, hit]; exact Nat.lt_succ_self _
  generalize hs2 : ({ s1 with heap := s1.heap.push ob } : Shared) = s2 at I2 ⊢
  have h2 : s2.heap = s1.heap.push ob := by rw [← hs2]
  rw [← h2] at st2 ilt
  refine wpAny_newObj_type (newEnv_comp ?_) (by show 0 ≤ sizeLine; decide)
  generalize hD : s2.heap.objs.size = D
  have hDn : H1 D = none := I2.hok.fresh (Nat.le_of_eq hD)
  have hQ := hQ D hDn
  generalize hs3 : ({ s2 with heap := s2.heap.push { cls := .type "list", data := .seq ([] : List Value).toArray } } : Shared) = s3
  have h3 : s3.heap = s2.heap.push { cls := .type "list", data := .seq ([] : List Value).toArray } := by rw [← hs3]
  have I3 : Inv X pins σ (upd H1 D (.lst [])) s3 := by
    rw [← hs3]
    refine I2.laid (t' := s2.toks) (fun b o e => Heap.get?_push_of_some _ e) (Nat.le_of_eq hD) ⟨Nat.zero_le _, [], 0, .nil, ?_⟩
    rw [← hD]
    exact Heap.get?_push_size _ rfl
  have neD : it ≠ D := by rw [← hD]; exact Nat.ne_of_lt ilt
  have f3 : ∀ b ∈ [it], FpOk X pins (upd H1 D (.lst [])) b ∧ b < s3.heap.objs.size := fun b hb => by
    obtain rfl : b = it := by simpa using hb
    exact ⟨⟨by rw [upd_ne neD]; exact f2.1, f2.2⟩, by rw [h3, Heap.size_push]; exact Nat.lt_succ_of_lt ilt⟩
  have st3 : s3.heap.IsListIter it a 0 := st2.at fun o e => by rw [h3]; exact Heap.get?_push_of_some _ e
  have P1 := I3.pin p (List.mem_append_left _ hp)
  have plt := Heap.lt_size P1.1
  have pne : p.1 ≠ it := fun z => by
    have q1 := (I1.pin p (List.mem_append_left _ hp)).1
    have q2 := Heap.lt_size q1
    rw [z, hit] at q2
    exact Nat.lt_irrefl _ q2
  have I4 := block_start I3 ok hN f3
  have pe := he s3 (upd H1 D (.lst [])) s3.heap.objs.size (cellsFrom (s3.heap.objs.size + 1) scope.names (cloFrom X.env.cells scope.names [])) [it]
  show codeAny _ _ (.compStart (.ListComp elt [⟨.Name y py, iter, [], 0⟩] scope pos) 0 (.ref it) (.ref D) (compEnvC scope (cellsFrom (s3.heap.objs.size + 1) scope.names (cloFrom X.env.cells scope.names [])) s3.heap.objs.size X.env)) (compPost (model X.prog X.w) X.A X.xe none _ (.ref D) s3.heap.objs.size) { s3 with heap := pushCells (s3.heap.push { cls := .type "dict", data := .dict #[] }) scope.names }
  have hbx : HotBy X.A X.stack [it] (upd H1 D (.lst [])) s3 p := ⟨hot, P1.1, P1.2.1, fun hm => (List.mem_cons.mp (I3.stkSub p.1 hm)).elim P1.2.2.1 P1.2.2.2.1, by simpa using pne⟩
  have hyl2 : ∀ (C : Addr) (cl : List (Str × Addr)), (compEnvC scope cl C X.env).scope.names.lookup y = some .local := fun _ _ => hyl
  generalize hce : compEnvC scope (cellsFrom (s3.heap.objs.size + 1) scope.names (cloFrom X.env.cells scope.names [])) s3.heap.objs.size X.env = ce at I4 pe ⊢
  have cL : ce.locals = s3.heap.objs.size := by subst hce; rfl
  have cyl : ce.scope.names.lookup y = some .local := by subst hce; exact hyl
  generalize hH3 : upd H1 D (.lst []) = H3 at I3 I4 pe f3 hbx P1
  generalize hs4 : ({ s3 with heap := pushCells (s3.heap.push { cls := .type "dict", data := .dict #[] }) scope.names } : Shared) = s4 at I4 ⊢
  have st4 : s4.heap.IsListIter it a 0 := st3.at fun o e => by rw [← hs4]; exact pushCells_keeps _ _ _ _ (Heap.get?_push_of_some _ e)
  have aD : a ≠ D := fun z => by
    rcases hq with (h | ⟨o, h⟩) | ⟨o, _, _, h, _⟩
    · rw [z, hDn] at h; cases h
    · rw [z, hDn] at h; cases h
    · have := I2.kIn a o h
      have := Heap.lt_size this
      rw [z, hD] at this
      exact Nat.lt_irrefl _ this
  -- the turns
  have loop : codeAny (model X.prog X.w) X.A (.compLoop (.ListComp elt [⟨.Name y py, iter, [], 0⟩] scope pos) 0 (.ref it) (.ref D) ce) (compPost (model X.prog X.w) X.A X.xe none (EP X pins σ Q) (.ref D) s3.heap.objs.size) s4 := by
    have hsl : (wipe σ (own.map (·.2))).length = σ.length := wipe_length σ _
    have iσ : i < σ.length := by rw [I.len]; exact (List.getElem?_eq_some_iff.mp hy).1
    have sq : ∀ ys, SqL X.K (upd H1 D (.lst ys)) a xs := fun ys => by
      rcases hq with (h | ⟨o, h⟩) | h
      · exact .inl (.inl (by rw [upd_ne aD]; exact h))
      · exact .inl (.inr ⟨o, by rw [upd_ne aD]; exact h⟩)
      · exact .inr h
    have stat : ∀ {τ : L2.St} {H' : Hp} {s' : Shared}, Inv (X.blk s3 H3 scope ce [it]) [] τ H' s' → H' it = none → ∀ b ∈ [it], FpOk (X.blk s3 H3 scope ce [it]) [] H' b := fun {τ H' s'} I' hn b hb => by
      obtain rfl : b = it := by simpa using hb
      exact ⟨hn, (I'.ok.exf b hb).1, I'.ok.exfs b hb, .inl hb, fun x c e => (I'.ok.exf b hb).2 x c e, fun z hz => absurd (show z ∈ ([] : List (Addr × Obj)) ++ [] from hz) (by simp)⟩
    have nitD : ∀ ys, upd H1 D (.lst ys) it = none := fun ys => by rw [upd_ne neD]; exact nit
    refine compLoop_any (fun n s' => ∃ j H', n = xs.length - j ∧ j ≤ xs.length ∧ H' = upd H1 D (.lst ((xs.take j).map f)) ∧ Inv (X.blk s3 H3 scope ce [it]) [] (wipe σ (own.map (·.2))) H' s' ∧ s'.heap.IsListIter it a j) ?_ xs.length ⟨0, _, rfl, Nat.zero_le _, rfl, by rw [← hH3] at I4 ⊢; exact I4, st4⟩
    rintro n s5 ⟨j, H5, rfl, hj, rfl, I5, st5⟩
    have q5 := sq ((xs.take j).map f)
    obtain ⟨its5, rv5, pl5, hz5⟩ := I5.list q5
    have hp5 := hbx.at I5
    obtain ⟨hh, vs1, d1, c1⟩ := hot
    have g3 := f3
    obtain ⟨f0, f1, f2, f3, f4, f5⟩ := stat I5 (nitD _) it (by simp)
    have hl5 := rv5.length
    by_cases hlt : j < xs.length
    · obtain ⟨u, hu, ru⟩ := rv5.get (i := j) (x := xs[j]) (by simp [hlt])
      refine wpAny_pyNext_list_item st5 pl5.isList (x := u) (by simpa using hu) fun h' st6 sb => ?_
      have I6 := I5.turned (t' := s5.toks) (fun b o hb e => (sb.2 b hb).trans e) f0 f1 f3 f4 f5
      obtain ⟨oi, e6, ec6, ed6⟩ := id st6
      refine go_of (s := { s5 with heap := h' }) e6 ec6 ed6 (by decide) ?_
      have I7 := I6.pinned (fp := [it]) (stat I6 (nitD _)) (fun b hb => by
        obtain rfl : b = it := by simpa using hb
        exact ⟨oi, e6, fun v z => by rw [ed6] at z; cases z⟩)
      have pg := pg_name (X := X.blk s3 H3 scope ce [it]) (pos := py) hN hy (.inl cyl) (.inr cyl)
      refine thnF (pg.run _ _ _ _ xs[j] u (fun τ H' => τ = (wipe σ (own.map (·.2))).set i (some xs[j]) ∧ H' = upd H1 D (.lst ((xs.take j).map f))) I7 ru ⟨rfl, rfl⟩) fun _ s8 ⟨τ, H8, I8, hτ, hH8⟩ => ?_
      subst hτ
      subst hH8
      refine wpAny_tests_nil ?_
      show (if true = true then _ else _)
      rw [if_pos rfl]
      refine thnF (pe.run _ s8 _ _ (fun z H' => z = f xs[j] ∧ H' = upd H1 D (.lst ((xs.take j).map f))) I8 (hf _ xs[j] _ _ (hpv _ (List.getElem_mem hlt)) (by rw [List.getElem?_set_self (by omega)]) ⟨rfl, rfl⟩)) fun z s10 ⟨zv, H10, I10, r10, e1, e2⟩ => ?_
      subst e1
      subst e2
      refine app_ok (X := X.blk s3 H3 scope ce [it]) I10 (upd_same) (by rw [sizeLine_eq]; simp; omega) r10 fun s11 I11 => ?_
      refine ⟨xs.length - (j + 1), by omega, j + 1, _, rfl, by omega, ?_, (I11.unpinned (pins := [])).weak (by rw [List.length_set]) (fun k v e => ?_), ?_⟩
      · funext b
        have tk : (xs.take (j + 1)).map f = (xs.take j).map f ++ [f xs[j]] := by
          rw [List.take_succ, List.getElem?_eq_getElem hlt, List.map_append]; rfl
        by_cases hb : b = D
        · rw [hb, upd_same, upd_same, tk]
        · rw [upd_ne hb, upd_ne hb, upd_ne hb]
      · by_cases ek : i = k
        · rw [← ek] at e
          exact absurd e (wipe_get hown)
        · rw [List.getElem?_set_ne ek]; exact e
      · refine st6.at fun o e => ?_
        exact (I11.pin (it, o) (List.mem_append_right _ (List.mem_append_right _ (mem_pinsAt (by simp) e)))).1
    · have ej : j = xs.length := by omega
      refine lend_hot (x1 := p.1) ⟨hh, p.2, vs1, hp5, d1, c1⟩ pne st5 pl5.isList (by simp; omega) fun h' eb => ?_
      have I6 := I5.turned (t' := s5.toks) (fun b o hb e => eb b o hb e) f0 f1 f3 f4 f5
      have I7 : Inv X pins σ _ { s5 with heap := h' } := I3.call' (ch := [it]) I6.os I6.base I6.hok I6.bare fun b hb => by
        obtain rfl : b = it := by simpa using hb
        exact ⟨(g3 b hb).1.2.2.2.1, (g3 b hb).1.2.1, (g3 b hb).1.2.2.2.2.1, (g3 b hb).1.2.2.2.2.2⟩
      have nC : upd H1 D (.lst ((xs.take j).map f)) s3.heap.objs.size = none := by
        have z := I6.free
        rw [show (X.blk s3 H3 scope ce [it]).env.locals = s3.heap.objs.size from cL] at z
        exact z
      obtain ⟨m, hn, _⟩ := I6.loc
      have hn : h'.Ns ce.locals m := hn
      rw [cL] at hn
      obtain ⟨z0, z1, z2, z3, z4, z5⟩ := I3.fpOk (Nat.le_refl _) nC
      have fin : (xs.take j).map f = xs.map f := by rw [ej, List.take_length]
      rw [fin] at I7
      exact ⟨m, hn, fun h'' sb => ⟨.ref D, _, I7.turned (t' := s5.toks) (fun b o hb e => (sb.2 b hb).trans e) (by rw [← fin]; exact z0) z1 z3 (by exact z4) (by exact z5), rfl, hQ⟩⟩
  exact codeAny_compStart_list loop (wpAny_pyIter_listiter st4 loop)
/-- sum of whole numbers -/
theorem sum_hot {prog : Program} {w : World} {A : Around} {E : Value → Shared → Prop} {s : Shared} {l : Addr} {its : List Value} {ns : List Int} {Q : Value → Shared → Prop} {p : Addr × Obj} (hot : L2H.Hot1 A p) (hp : s.heap.get? p.1 = some p.2)
    (hl : s.heap.IsList l its.toArray) (hi : IntsAre its ns) (h : ∀ h' tk t', (∀ b o, s.heap.get? b = some o → h'.get? b = some o) → Q (.int ns.sum t') { s with heap := h', toks := tk }) : wpAny (model prog w) A (call (.builtin "sum") [.ref l]) Q E s := by
  obtain ⟨xs, e⟩ := hi.allInts.items
  have hn : numsOf (intItems xs).toList = ns := by rw [← e]; exact hi.numsOf
  rw [nums_intItems] at hn
  rw [e] at hl
  obtain ⟨hh, vs1, d1, c1⟩ := hot
  refine call_sum_walkG (iter_intList hl fun s₂ es st hfp hlI => ?_)
  subst es
  have plt := Heap.lt_size hp
  refine ⟨_, _, _, _, _, _, numAt xs, rfl, walks_hot (A := A.in1) (x1 := p.1) (o1 := p.2) (by exact hh) d1 c1 _ l hlI (Nat.ne_of_lt plt) (intItems xs), ⟨st.1, st.2, Heap.get?_push_of_some _ hp⟩, fun b hb => ?_, (fun _ _ => intItems_at), fun h' tk t' hk => ?_⟩
  · rcases List.mem_cons.mp hb with z | hb
    · exact hfp b (by rw [z]; simp)
    · rcases List.mem_cons.mp hb with z | hb
      · exact hfp b (by rw [z]; simp)
      · rw [List.mem_singleton.mp hb]
        show p.1 < (s.heap.push _).objs.size
        rw [Heap.size_push]; exact Nat.lt_succ_of_lt plt
  · have := h h' tk t' (fun b o eb => hk b o (by simpa using Nat.ne_of_lt (Heap.lt_size eb)) (Heap.get?_push_of_some _ eb))
    rw [show (intItems xs).size = xs.size by simp [intItems], preSum_eq, List.take_of_length_le (by simp), hn]
    exact this
theorem c_sumH {p : Addr × Obj} (hot : L2H.Hot1 X.A p) (hp : p ∈ X.pn) : CallR X (.builtin "sum") (fun vs H Q => ∃ (a : Addr) (ns : List Int), vs = [V.ref a] ∧ SqL X.K H a (ns.map V.int) ∧ Q (.int ns.sum) H) := by
  intro pins s σ H vs us Q I r h
  obtain ⟨a, ns, rfl, hs, q⟩ := h
  obtain ⟨its, rv, hl, _⟩ := I.list hs
  rw [Vals.ref1 r]
  exact sum_hot hot (I.pin p (List.mem_append_left _ hp)).1 hl.isList rv.ints fun h' tk t' hk => ⟨.int _, H, I.kept hk, ⟨_, rfl⟩, q⟩
/-- isinstance of the exception that is handled -/
theorem c_isEH {D : Addr} {p : Addr × Obj} (hp : p ∈ X.pn) (C : ExcC X.K D) (hz : L2N.Zn (.ref D) none p.2) (hf : ∃ vs, p.2.data = .fields vs) : CallR X (.builtin "isinstance") (rIsE X.K D p.1) := by
  intro pins s σ H xs us Q I r h
  obtain ⟨c, cv, b, rfl, hcv, e, q⟩ := h
  cases r with
  | cons rx rr =>
    cases rr with
    | cons rt rr =>
      cases rr
      obtain rfl := rx
      have ec := hcv _ rt
      subst ec
      have hget := (I.pin p (List.mem_append_left _ hp)).1
      obtain ⟨vs, hv⟩ := hf
      have J : PySem.W.InstAt s.heap p.1 p.2 D none := by
        obtain ⟨a, oc, od, oda, osl⟩ := p
        obtain ⟨h1, h2, _⟩ := hz
        dsimp only at h1 h2 hv
        subst h1 h2 hv
        exact ⟨hget, rfl, rfl, trivial⟩
      exact PySem.W.kia_one (PySem.W.handS_kitx_exc C.hg C.hk C.hs C.hd C.ha C.hn C.ht C.hm) I.kIn J e (fun z => nomatch z) fun tk => ⟨.bl b, H, I.kept (t' := tk) fun _ _ z => z, rfl, q⟩
end
end Ev
namespace Ev
open PySem PySem.Spec PyProof.Rows L2
section
variable {X : Cx}
/-- f(e), e the exception that is handled; nothing is let out -/
theorem pe_handle {f : Addr} {x n qual : Str} {params : Arguments} {body : List Stmt} {scope : Scope} {dV kV doc pm cdv ct oc : Value} {an od : Option Addr} {osl : Array (Option Value)} {N : List Str} {par : Str} {k i : Nat} {p : Addr × Obj} {spT : Hp → VK → Prop} {q q2 pos : Pos}
    (hot : L2H.Hot1 X.A p) (hp : p ∈ X.pn) (hr : L2H.RoomH (k + 1) X.A) (hg : Gl X x) (hm : X.mg x = some (.ref f)) (hk : PySem.W.keepIn X.K (.ref f) = true)
    (lk : X.K.lookup f = some ⟨oc, od, .func (PySem.W.fnOf x qual params body scope dV kV doc pm an cdv ct), osl⟩) (hcd : PySem.W.codeIn X.K cdv qual = true) (S : FnScope N [par] scope) (hb : L2.Binds X.K (PySem.W.fnOf x qual params body scope dV kV doc pm an cdv ct) [par] [])
    (hi : X.N[i]? = some n) (hv : Vis X.env.scope n) (hd1 : (n == ("__debug__" : Str)) = false) (hd2 : (n == ("__classdict__" : Str)) = false) (hdb : (x == ("__debug__" : Str)) = false)
    (hbody : ∀ (A : Around) (outer : List Env) (s : Shared) (H : Hp) (Q : VK), L2H.Hot1 A p → L2H.RoomH k (A.deeper (envOfC qual scope s.heap.objs.size f cdv)) → spT H Q →
      ∃ t, PSs (L2H.cxH C8.CX0 X.prog X.w X.K X.mg X.base N qual scope f cdv A outer s H C8.E0 p) body t ∧ t { nx := fun _ H' => Q .non H', rt := Q } (L2.start N [.ref p.1]) H) :
    PE X (.Call (.Name x q) [.Name n q2] [] pos) (fun σ H Q => σ[i]? = some (some (.ref p.1)) ∧ spT H Q) := by
  constructor
  intro pins s σ H Q I hh
  obtain ⟨hσ, hsp⟩ := hh
  refine wpAny_Call_Name_kw (ld_glob I hg hm ?_ hdb)
  have ha : PA X [.Name n q2] (tCons (tVar i) tNil) := pa_cons (pe_var hi hv hd1 hd2) pa_nil
  refine PySem.W.callWith_K (h₀ := X.base) I.ok.mod.kin hk (thn (ha.run pos pins s σ H (fun vs H1 => vs = [V.ref p.1] ∧ H1 = H) I ⟨_, hσ, rfl, rfl⟩) fun us s1 hu => ?_) rfl rfl
  obtain ⟨vs, H1, I1, r, rfl, rfl⟩ := hu
  refine ⟨I1.kIn, ?_⟩
  have P1 := I1.pin p (List.mem_append_left _ hp)
  have hpin : L2H.PinOk X.stack H1 s1 p := ⟨P1.1, P1.2.1, fun hm => (List.mem_cons.mp (I1.stkSub p.1 hm)).elim P1.2.2.1 P1.2.2.2.1, P1.2.2.2.2⟩
  have e0 := I1.env0
  have KX : X.K.In s1.heap := e0.mod.kin.keeps fun b o e => (e0.bs b o e).1
  have lim : s1.heap.NoLimit := e0.mod.nolimit.keeps fun b o e => (e0.bs b o e).1
  have hul : us.length = 1 := by have := r.length; simpa using this.symm
  have bnd := hb s1 us I1.kIn (by rw [List.append_nil]; exact hul)
  rw [List.append_nil] at bnd
  have hkind : ∀ z ∈ [par].zip us, scope.names.lookup z.1 = some .local ∨ (scope.names.lookup z.1 = some .cell ∧ ((cellsFrom (s1.heap.objs.size + 1) scope.names []).lookup z.1).isSome = true) := fun ⟨m, v⟩ hz => by
    rcases S.par m (List.of_mem_zip hz).1 with h | h
    · exact .inl h
    · exact .inr ⟨h, PySem.W.cellsFrom_some _ _ _ (.inl h)⟩
  have rc : codeAny (model X.prog X.w) X.A (.call (.ref f) ⟨us, []⟩) (CR C8.CX0 X.stack X.prog X.w H1 s1 Q C8.E0) s1 := by
    refine codeAny_call_function hr.depth (KX _ _ lk) rfl S.co S.gen rfl (PySem.W.codeRec_of KX hcd) (bnd _ _ _ _ ?_)
    refine wpAny_newFunctionEnv_cells S.kind hkind fun env he s2 xx => ?_
    subst he
    refine ⟨lim.keeps xx.toInCall.keep, codeAny_func ?_⟩
    obtain ⟨t, ht, hq⟩ := hbody X.A X.stack s1 H1 Q hot (hr.deeper _) hsp
    have J := L2H.inv_startH (CX := C8.CX0) (E := C8.E0) S hpin e0 (vs := [V.ref p.1]) rfl r xx
    refine wpAny_mono (ht.run [] s2 _ H1 _ J hq) (fun fl s' hs => ?_) fun e s' hs => hs
    have fin : ∀ {σ' : L2.St} {H' : Hp} {v : V} {u : Value}, Inv (L2H.cxH C8.CX0 X.prog X.w X.K X.mg X.base N qual scope f cdv X.A X.stack s1 H1 C8.E0 p) [] σ' H' s' → L2.RelV v u → Q v H' → CE X.stack X.prog X.w H1 s1 Q u s' :=
      fun {σ' H' v u} J rv q => ⟨v, H', J.os, J.bare, J.base, J.hok, rv, q⟩
    cases fl with
    | ret u => obtain ⟨v, σ', H', J, rv, q⟩ := hs; exact fin J rv q
    | next => obtain ⟨σ', H', J, q⟩ := hs; exact fin (v := V.non) (u := Value.none) J rfl q
    | brk => obtain ⟨_, _, _, q⟩ := hs; exact False.elim q
    | cont => obtain ⟨_, _, _, q⟩ := hs; exact False.elim q
  refine wpAny_call (codeAny_mono rc fun r s' hq => ?_)
  cases r with
  | error e => exact (show False from hq).elim
  | ok fl =>
    cases fl with
    | ret u => exact I1.after hq
    | _ => exact False.elim hq
end
/-- the def that names a caught exception -/
structure TermOk (X : Cx) (gg : GN) (td : Nat → Option D) (tx : Str) : Prop where
  ex : ∃ (f : Addr) (pg : Arguments) (bt : List Stmt) (st : Scope) (dV kV doc pm cdv ct oc : Value) (an od : Option Addr) (osl : Array (Option Value)) (Nt : List Str) (par : Str), X.mg tx = some (.ref f) ∧ PySem.W.keepIn X.K (.ref f) = true ∧
    X.K.lookup f = some ⟨oc, od, .func (PySem.W.fnOf tx tx pg bt st dV kV doc pm an cdv ct), osl⟩ ∧ PySem.W.codeIn X.K cdv tx = true ∧ L2.Binds X.K (PySem.W.fnOf tx tx pg bt st dV kV doc pm an cdv ct) [par] [] ∧ FnScope Nt [par] st ∧
    ∀ (A : Around) (outer : List Env) (s : Shared) (H : Hp) (Q : VK) (p : Addr × Obj) (c : Nat) (d0 : D) (w : Wd) (sh : HSt), td c = some d0 → L2N.Zn (.ref (gg.cls c)) none p.2 → (∃ vs, p.2.data = .fields vs) → L2H.Hot1 A p → L2H.RoomH 0 (A.deeper (envOfC tx st s.heap.objs.size f cdv)) → WRel (Gx X gg) w H sh → PY (Gx X gg) w H d0 Q →
      ∃ t, PSs (L2H.cxH C8.CX0 X.prog X.w X.K X.mg X.base Nt tx st f cdv A outer s H C8.E0 p) bt t ∧ t { nx := fun _ H' => Q .non H', rt := Q } (L2.start Nt [.ref p.1]) H
theorem told_givesN {X : Cx} {gg : GN} {td : Nat → Option D} {Ng : List Str} {x a e en tx q : Str} {sg : Scope} {g CS : Addr} {cdg : Value} {p1 p2 p3 p4 p5 p6 p7 p8 p9 p10 : Pos}
    (hr : Room 2 X.A) (hN : Ng.Nodup) (hi1 : Ng[1]? = some en) (hl : Ng.length = 2) (hen : sg.names.lookup en = some .local) (hge : sg.names.lookup e = some .globalImplicit) (hme : X.mg e = some (.ref CS)) (hde : (e == ("__debug__" : Str)) = false)
    (hgt : sg.names.lookup tx = some .globalImplicit) (hdt : (tx == ("__debug__" : Str)) = false) (hn1 : (en == ("__debug__" : Str)) = false) (hn2 : (en == ("__classdict__" : Str)) = false)
    (hexm : ∀ c d0, td c = some d0 → PySem.W.exmOne X.K (.ref (gg.cls c)) (.ref CS) = some true) (T : TermOk X gg td tx) :
    GivesN X Ng x sg g cdg [.Try [.Return (some (.Call (.Name a p1) [] [] p2)) p3] [.ExceptHandler (some (.Name e p4)) (some en) [.Return (some (.Call (.Name tx p5) [.Name en p6] [] p7)) p8] p9] [] [] p10] a q (TTd (Gx X gg) td) := by
  intro f c' s H Q tl act hc h
  obtain ⟨ft, pgt, bt, st, dV, kV, doc, pm, cdv, ct, oc, an, od, osl, Nt, par, tm, tk, tl', tcd, tb, tS, tT⟩ := T.ex
  have hgl : Gl (cxOf C8.CX0 X.prog X.w X.K X.mg X.base Ng x sg g cdg X.A X.stack s H C8.E0).nox e := hge
  have rm := hr.deeper (envOfC x sg s.heap.objs.size g cdg)
  refine ⟨_, pss_one (L2N.ps_try_as (X := (cxOf C8.CX0 X.prog X.w X.K X.mg X.base Ng x sg g cdg X.A X.stack s H C8.E0).nox) (c := .ref CS) (i := 1) (n := en)
      (tb := fun W D σ H => ∃ Ech : XK, (∀ cls d (σ' : L2.St) H', Ech cls d H' → σ'.length = 2 → W cls d σ' H') ∧ σ[0]? = some (some (.ref f)) ∧ H c' = some (LamX.CodeO c' q) ∧ tl Ech H D.rt)
      (ts := fun a cls d => tRet fun σ H Q => σ[1]? = some (some (.ref a)) ∧ (d = none ∧ ∃ c d0 w sh, cls = .ref (gg.cls c) ∧ td c = some d0 ∧ WRel (Gx X gg) w H sh ∧ PY (Gx X gg) w H d0 Q))
      rfl rfl hN hi1 hen ⟨hgl, hde, .inl hme⟩ takesN0 (fun W pn xe tk _ => ?_) (fun a oe cls d pn hz hv => pss_one (ps_ret ?_))), ?_⟩
  · constructor
    intro pins s' σ H' D I hh
    obtain ⟨Ech, hW, h1, h2, h3⟩ := hh
    have tk2 : L2N.Takes ((cxOf C8.CX0 X.prog X.w X.K X.mg X.base Ng x sg g cdg X.A X.stack s H C8.E0).tr pn xe) (fun cls d σ H => σ.length = 2 → W cls d σ H) := fun u s' h => by
      obtain ⟨a, B, sI, pins, σ, H, cls, d, z1, z2, z3, z4, z5, z6, z7, z8, z9⟩ := h
      exact tk u s' ⟨a, B, sI, pins, σ, H, cls, d, z1, z2, z3, z4, z5, z6, z7, z8, z9 (z2.len.trans hl)⟩
    have hp := act _ pn xe Ech p1 p2 tk2 hW
    exact (pss_one (ps_ret (pos := p3) hp)).run pins s' σ H' D I ⟨h1, h2, h3⟩
  · obtain ⟨vs, hvs⟩ := hv
    refine pe_handle (p := (a, oe)) (i := 1) (k := 0) (spT := fun H Q => d = none ∧ ∃ c d0 w sh, cls = .ref (gg.cls c) ∧ td c = some d0 ∧ WRel (Gx X gg) w H sh ∧ PY (Gx X gg) w H d0 Q) ⟨rfl, vs, hvs, ?_⟩ (by simp) ⟨rm.dp, rm.un⟩ hgt tm tk tl' tcd tS tb hi1 (.inl hen) hn1 hn2 hdt fun A outer s H Q hot hrr hsp => ?_
    · exact hz.2.2 vs hvs
    · obtain ⟨rfl, c, d0, w, sh, rfl, h2, h3, h4⟩ := hsp
      exact tT A outer s H Q (a, oe) c d0 w sh h2 hz ⟨vs, hvs⟩ hot hrr h3 h4
  · refine ⟨fun cls dd H' => dd = none ∧ ∃ c d w st, cls = .ref (gg.cls c) ∧ td c = some d ∧ WRel (Gx X gg) w H' st ∧ PY (Gx X gg) w H' d Q, fun cls d σ' H' hE hσ => ?_, ?_, hc, h⟩
    · obtain ⟨rfl, c, d0, w, sh, rfl, h2, h3, h4⟩ := hE
      refine ⟨true, hexm c d0 h2, fun _ a _ => ⟨?_, rfl, c, d0, w, sh, rfl, h2, h3, h4⟩, fun z => nomatch z⟩
      exact List.getElem?_set_self (by omega)
    · unfold L2.start; simp
end Ev
namespace Ev
open PySem PySem.Spec PyProof.Rows L2
/-! ### the def that names the exception that is handled -/
section
variable {X : Cx}
theorem gl_by {sc : Scope} {x y : Str} (hs : X.env.scope = sc) (h : globB sc x y = true) : x = y ∧ Gl X y ∧ (y == ("__debug__" : Str)) = false := by
  obtain ⟨rfl, h2, h3⟩ := globB_ok h
  refine ⟨rfl, ?_, (plain_ok h3).1⟩
  rw [lookN_eq] at h2
  unfold Gl Env.kindOf
  rw [hs]
  cases e : sc.names.lookup x with
  | none => rw [e] at h2; cases h2
  | some q => rw [e] at h2; cases q <;> first | rfl | cases h2
theorem vis_by {sc : Scope} {N : List Str} {i : Nat} {x : Str} (hs : X.env.scope = sc) (hN : X.N = N) (h : varB N sc i x = true) : X.N[i]? = some x ∧ Vis X.env.scope x ∧ (x == ("__debug__" : Str)) = false ∧ (x == ("__classdict__" : Str)) = false := by
  unfold varB at h
  simp only [Bool.and_eq_true] at h
  obtain ⟨p1, p2⟩ := plain_ok h.2
  refine ⟨by rw [hN]; exact slotB_ok h.1.1, ?_, p1, p2⟩
  have h := h.1.2
  rw [lookN_eq] at h
  unfold Vis
  rw [hs]
  cases e : sc.names.lookup x with
  | none => rw [e] at h; cases h
  | some q => rw [e] at h; cases q <;> first | exact .inl rfl | exact .inr (.inl rfl) | exact .inr (.inr rfl) | cases h
theorem blk_scope (s : Shared) (H : Hp) (scope : Scope) (C' : Addr) (cl : List (Str × Addr)) (fp : List Addr) : (X.blk s H scope (compEnvC scope cl C' X.env) fp).env.scope = relR scope X.env.scope := by
  show relabel scope X.env = relR scope X.env.scope
  unfold relabel relR Env.kindOf
  congr 1
  apply List.map_congr_left
  intro p _
  obtain ⟨n, k⟩ := p
  simp only [lookN_eq]
variable {g : GN} {p : Addr × Obj} {N : List Str} {sc : Scope}
/-- the frame: slot 0 holds the exception -/
structure ER (X : Cx) (g : GN) (p : Addr × Obj) (env : List (Option D)) (σ : L2.St) (w : Wd) (H : Hp) (st : HSt) : Prop where
  wr : WRel (Gx X g) w H st
  len : σ.length = env.length
  e0 : σ[0]? = some (some (.ref p.1))
  sl : ∀ (i : Nat) (d : D), env[i]? = some (some d) → ∃ v, σ[i]? = some (some v) ∧ Rep (Gx X g) w H d v
theorem ER.pext {env : List (Option D)} {σ : L2.St} {w w1 : Wd} {H H1 : Hp} {st : HSt} (e : ER X g p env σ w H st) (x : PExt w H w1 H1) : ER X g p env σ w1 H1 st :=
  ⟨x.wrel e.wr, e.len, e.e0, fun i d h => let ⟨v, h1, r⟩ := e.sl i d h; ⟨v, h1, r.mono (x.ext.le e.wr)⟩⟩
theorem PY.pext {G : GC} {w w1 : Wd} {H H1 : Hp} {d : D} {Q : VK} (y : PY G w H d Q) (x : PExt w H w1 H1) : PY G w1 H1 d Q := fun w' H' v x' r => y w' H' v (x.trans x') r
def TH (X : Cx) (g : GN) (p : Addr × Obj) (env : List (Option D)) (d : D) : TE := fun σ H Q => ∃ w st, ER X g p env σ w H st ∧ PY (Gx X g) w H d Q
def THs (X : Cx) (g : GN) (p : Addr × Obj) (env : List (Option D)) (ds : List D) : TA := fun σ H Q => ∃ w st, ER X g p env σ w H st ∧ ∀ w' H' vs, PExt w H w' H' → RepAll (Gx X g) w' H' ds vs → Q vs H'
def TTH (X : Cx) (g : GN) (p : Addr × Obj) (env : List (Option D)) (b : Bool) : TT := fun σ H Q => ∃ w st, ER X g p env σ w H st ∧ ∀ w' H', PExt w H w' H' → Q b H'
def TSH (X : Cx) (g : GN) (p : Addr × Obj) (env : List (Option D)) (d : D) : TS := fun Dd σ H => ∃ w st, ER X g p env σ w H st ∧ PY (Gx X g) w H d Dd.rt
variable {env : List (Option D)}
theorem th_lit {e : Expr} {d : D} {v : V} (h : PE X e (tC v)) (r : ∀ w H, Rep (Gx X g) w H d v) : PE X e (TH X g p env d) := PE.imp h fun σ H Q ⟨w, st, e, y⟩ => y w H v .refl (r w H)
theorem th_str {x : Str} {j pos} : PE X (.Constant (.str x) j pos) (TH X g p env (.str x.cps.toList)) := th_lit pe_str fun w H => by
  have := Rep.str (G := Gx X g) (w := w) (H := H) x.cps.toList
  exact this
theorem th_var {i : Nat} {d : D} {x : Str} {pos : Pos} (hs : X.env.scope = sc) (hN : X.N = N) (h : varB N sc i x = true) (he : env[i]? = some (some d)) : PE X (.Name x pos) (TH X g p env d) := by
  obtain ⟨h1, h2, h3, h4⟩ := vis_by hs hN h
  exact PE.imp (pe_var h1 h2 h3 h4) fun σ H Q ⟨w, st, e, y⟩ => let ⟨v, e1, r⟩ := e.sl i d he; ⟨v, e1, y w H v .refl r⟩
theorem th_nil : PA X [] (THs X g p env []) := PA.imp pa_nil fun σ H Q ⟨w, st, e, y⟩ => y w H [] .refl .nil
theorem th_cons {e : Expr} {es : List Expr} {d : D} {ds : List D} (hst : notStar e = true) (ha : PE X e (TH X g p env d)) (hb : PA X es (THs X g p env ds)) : PA X (e :: es) (THs X g p env (d :: ds)) :=
  PA.imp (pa_cons ha hb (star_ok hst _ _)) fun σ H Q ⟨w, st, e, y⟩ => ⟨w, st, e, fun w1 H1 v x r => ⟨w1, st, e.pext x, fun w2 H2 vs x2 r2 => by
    have := y w2 H2 (v :: vs) (x.trans x2) (.cons (r.mono (x2.ext.le (e.pext x).wr)) r2)
    exact this⟩⟩
theorem th_lst {es : List Expr} {ds : List D} {pos : Pos} (h : PA X es (THs X g p env ds)) (hl : ds.length ≤ 1000) : PE X (.List es pos) (TH X g p env (.lst ds)) :=
  PE.imp (pe_lst h) fun σ H Q ⟨w, st, e, y⟩ => ⟨w, st, e, fun w1 H1 vs x r => ⟨by rw [← r.length, sizeLine_eq]; omega, fun q hq => (y.pext x).lst (e.pext x).wr r q hq⟩⟩
theorem th_tup {es : List Expr} {ds : List D} {pos : Pos} {j : Nat} (h : PA X es (THs X g p env ds)) (hl : ds.length ≤ 1000) : PE X (.Tuple es j pos) (TH X g p env (.tup ds)) :=
  PE.imp (pe_tupF h) fun σ H Q ⟨w, st, e, y⟩ => ⟨w, st, e, fun w1 H1 vs x r => ⟨by rw [← r.length, sizeLine_eq]; omega, fun q o hq ho => (y.pext x).tup (e.pext x).wr r q o hq ho⟩⟩
theorem th_two {a b : TE} {da db : D} {f : HSt → D → D → Option D} {d : D} {σ : L2.St} {H : Hp} {Q : VK} (hf : ∀ st, f st da db = some d) (h : TH X g p env d σ H Q) :
    TH X g p env da σ H fun x H1 => TH X g p env db σ H1 fun y H2 => rP2 (Gx X g) f x y H2 Q := by
  obtain ⟨w, st, e, y⟩ := h
  exact ⟨w, st, e, fun w1 H1 v x r => ⟨w1, st, e.pext x, fun w2 H2 u x2 r2 => ⟨w2, st, da, db, d, x2.wrel (e.pext x).wr, r.mono (x2.ext.le (e.pext x).wr), r2, hf st, y.pext (x.trans x2)⟩⟩⟩
theorem th_add {a b : Expr} {da db d : D} {pos : Pos} (ha : PE X a (TH X g p env da)) (hb : PE X b (TH X g p env db)) (h : addD da db = some d) : PE X (.BinOp a .Add b pos) (TH X g p env d) :=
  PE.imp (pe_op (o_add (g := g)) ha hb) fun σ H Q t => th_two (a := TH X g p env da) (b := TH X g p env db) (f := fun _ => addD) (fun _ => h) t
theorem th_ix {a b : Expr} {da db d : D} {pos : Pos} (hu : X.A.units + 66 < cLine) (hn : notSlice b = true) (ha : PE X a (TH X g p env da)) (hb : PE X b (TH X g p env db)) (h : ∀ st, idxD st da db = some d) : PE X (.Subscript a b pos) (TH X g p env d) :=
  PE.imp (pe_ix (o_idx (g := g) (by omega)) ha hb (plainIx_ok hn)) fun σ H Q t => th_two (a := TH X g p env da) (b := TH X g p env db) (f := fun st a b => idxD st a b) h t
theorem tt_ne {a b : Expr} {da db : D} {c : Bool} {pos : Pos} (hu : X.A.units + 66 < cLine) (hn : notSet b = true) (ha : PE X a (TH X g p env da)) (hb : PE X b (TH X g p env db)) (h : nD (eqD da db) = some (.bl c)) : PT X (.Compare a [.NotEq] [b] pos) (TTH X g p env c) :=
  PT.imp (pt_cmpR (o_ne (g := g) (by omega)) ha hb (behind_ok hn)) fun σ H Q ⟨w, st, e, y⟩ => th_two (a := TH X g p env da) (b := TH X g p env db) (f := fun _ a b => nD (eqD a b)) (fun _ => h) ⟨w, st, e, fun w1 H1 v x r => by cases rep_bl r; exact ⟨c, rfl, y w1 H1 x⟩⟩
theorem tt_val {a : Expr} {c : Bool} (ht : plainTest a = true) (ha : PE X a (TH X g p env (.bl c))) : PT X a (TTH X g p env c) :=
  PT.imp (pt_val ha fun whole => by
    cases a <;> first | rfl | cases ht | skip
    rename_i op _ _
    cases op <;> first | rfl | cases ht) fun σ H Q ⟨w, st, e, y⟩ => ⟨w, st, e, fun w1 H1 v x r => by cases rep_bl r; exact ⟨c, rfl, y w1 H1 x⟩⟩
theorem tt_not {a : Expr} {c : Bool} {pos : Pos} (ha : PT X a (TTH X g p env c)) : PT X (.UnaryOp .Not a pos) (TTH X g p env (!c)) :=
  PT.imp (pt_not ha) fun σ H Q ⟨w, st, e, y⟩ => ⟨w, st, e, fun w1 H1 x => y w1 H1 x⟩
theorem tt_or {a b : Expr} {c d : Bool} {pos : Pos} (ha : PT X a (TTH X g p env c)) (hb : PT X b (TTH X g p env d)) : PT X (.BoolOp .Or [a, b] pos) (TTH X g p env (c || d)) :=
  PT.imp (pw_or ha (pw_or1 hb)).pt fun σ H Q ⟨w, st, e, y⟩ => ⟨w, st, e, fun w1 H1 x => by
    cases c with
    | true => exact y w1 H1 x
    | false => exact ⟨w1, st, e.pext x, fun w2 H2 x2 => y w2 H2 (x.trans x2)⟩⟩
/-- isinstance of the exception, C a class of the program or a given one -/
theorem th_isi {x y z : Str} {p1 p2 p3 pos : Pos} {D0 : Addr} {cv : V} {cu : Value} {b : Bool} (hs : X.env.scope = sc) (hN : X.N = N) (hp : p ∈ X.pn) (C : ExcC X.K D0) (hz : L2N.Zn (.ref D0) none p.2) (hf : ∃ vs, p.2.data = .fields vs)
    (hx : globB sc x "isinstance" = true) (hm : X.mg "isinstance" = none) (hy : varB N sc 0 y = true) (hc : PE X (.Name z p3) (tC cv)) (hcu : ∀ u, RelV cv u → u = cu) (hk : PySem.W.kitOne X.K (.ref D0) cu = some b) :
    PE X (.Call (.Name x p1) [.Name y p2, .Name z p3] [] pos) (TH X g p env (.bl b)) := by
  obtain ⟨rfl, h2, h3⟩ := gl_by hs hx
  obtain ⟨y1, y2, y3, y4⟩ := vis_by hs hN hy
  refine PE.imp (pe_callB (c_isEH hp C hz hf) h2 hm (by decide +kernel) (pa_cons (pe_var y1 y2 y3 y4) (pa_cons hc pa_nil)) (by decide +kernel) h3 (star_ok rfl _ _) rfl) fun σ H Q ⟨w, st, e, yy⟩ => ?_
  exact ⟨_, e.e0, cv, cu, b, rfl, hcu, hk, yy w H _ .refl (.bl b)⟩
theorem reps_bls {G : GC} {w : Wd} {H : Hp} : ∀ {bs : List Bool} {vs : List V}, RepAll G w H (bs.map D.bl) vs → vs = bs.map V.bl
  | [], _, .nil => rfl
  | b :: bs, _, .cons r rs => by rw [rep_bl r, reps_bls rs]; rfl
theorem ER.bls {σ : L2.St} {w : Wd} {H : Hp} {st : HSt} (e : ER X g p env σ w H st) {i : Nat} {bs : List Bool} (h : env[i]? = some (some (.lst (bs.map D.bl)))) : ∃ a, σ[i]? = some (some (.ref a)) ∧ SqL X.K H a (bs.map V.bl) := by
  obtain ⟨v, h1, r⟩ := e.sl i _ h
  cases r with
  | lst f l q => rw [reps_bls q] at l; exact ⟨_, h1, SqL.of l⟩
/-- where the one True stands in a list of flags -/
theorem th_index {x : Str} {p1 p2 ap cp : Pos} {i jj : Nat} {bs : List Bool} {k} (hs : X.env.scope = sc) (hN : X.N = N) (h : varB N sc i x = true) (he : env[i]? = some (some (.lst (bs.map D.bl)))) (hj : bs[jj]? = some true) (hno : (bs.take jj).all (!·) = true) (hl : (ap.endLine == cp.line) = true) :
    PE X (.Call (.Attribute (.Name x p1) "index" ap) [.Constant (.bool true) k p2] [] cp) (TH X g p env (.int jj)) := by
  obtain ⟨h1, h2, h3, h4⟩ := vis_by hs hN h
  refine PE.imp (pe_bm PySem.F.plainAttrs_list PySem.F.slot_list_index PySem.F.type_list_index mt_index (pe_var h1 h2 h3 h4) (pa_cons pe_bl pa_nil (star_ok rfl _ _)) rfl (by rfl) hl (star_ok rfl _ _) rfl) fun σ H Q ⟨w, st, e, y⟩ => ?_
  obtain ⟨a, ha, hq⟩ := e.bls he
  refine ⟨.ref a, ha, .inl ⟨rfl, _, hq⟩, a, bs.map V.bl, .bl true, jj, .bl true, rfl, rfl, hq, rfl, ?_, ?_, rfl, fun m z hm hz => ?_, y w H _ .refl (.int _)⟩
  · rw [List.all_eq_true]
    intro v hv
    obtain ⟨b, _, rfl⟩ := List.mem_map.mp hv
    rfl
  · rw [List.getElem?_map, hj]; rfl
  · rw [List.getElem?_map] at hz
    cases q : bs[m]? with
    | none => rw [q] at hz; cases hz
    | some b =>
      rw [q] at hz
      cases hz
      have hb : b ∈ bs.take jj := List.mem_of_getElem? (i := m) (by rw [List.getElem?_take_of_lt hm]; exact q)
      have := List.all_eq_true.mp hno b hb
      cases b
      · rfl
      · cases this
def intB : V → V
  | .bl b => .int (if b then 1 else 0)
  | v => v
/-- how many flags are up -/
theorem th_sum {x y z w' : Str} {p1 p2 p3 p4 p5 p6 p7 pos : Pos} {i i2 : Nat} {own : List Nat} {scope : Scope} {bs : List Bool} (hot : L2H.Hot1 X.A p) (hp : p ∈ X.pn) (hs : X.env.scope = sc) (hN : X.N = N) (hnd : X.N.Nodup)
    (hx : globB sc x "sum" = true) (hmx : X.mg "sum" = none) (hb : blkC N sc scope (ownN N own) = true) (hi2 : varB N (relR scope sc) i2 y = true) (hl2 : isLocal (lookN (relR scope sc).names y) = true) (how : own.contains i2 = true)
    (hz : globB (relR scope sc) z "int" = true) (hmz : X.mg "int" = none) (hw : varB N sc i w' = true) (he : env[i]? = some (some (.lst (bs.map D.bl)))) (hlen : bs.length < 1000) :
    PE X (.Call (.Name x p1) [.ListComp (.Call (.Name z p2) [.Name y p3] [] p4) [⟨.Name y p5, .Name w' p6, [], 0⟩] scope p7] [] pos) (TH X g p env (.int (bs.map fun b => if b then (1 : Int) else 0).sum)) := by
  obtain ⟨rfl, h2, h3⟩ := gl_by hs hx
  obtain ⟨w1, w2, w3, w4⟩ := vis_by hs hN hw
  have hne : z = "int" ∧ (z == ("__debug__" : Str)) = false := by
    obtain ⟨rfl, _, q⟩ := globB_ok hz
    exact ⟨rfl, (plain_ok q).1⟩
  obtain ⟨rfl, hzd⟩ := hne
  have hi0 : N[i2]? = some y := by
    unfold varB at hi2
    simp only [Bool.and_eq_true] at hi2
    exact slotB_ok hi2.1.1
  have hloc : (L2.relS scope X.env.scope).names.lookup y = some .local := by
    have q : (relR scope sc).names.lookup y = some .local := by
      rw [lookN_eq] at hl2
      cases e : (relR scope sc).names.lookup y with
      | none => rw [e] at hl2; cases hl2
      | some q => rw [e] at hl2; cases q <;> first | rfl | cases hl2
    have e : L2.relS scope sc = relR scope sc := by
      unfold L2.relS relR
      congr 1
      apply List.map_congr_left
      intro p _
      obtain ⟨n, k⟩ := p
      simp only [lookN_eq]
    rw [← q, hs, e]
  have key := pe_lcH (X := X) (pos := p7) (py := p5) (elt := .Call (.Name "int" p2) [.Name y p3] [] p4) (iter := .Name w' p6) (scope := scope) (own := ownN N own) (y := y) (i := i2) (p := p) (f := intB) (PV := fun v => ∃ b, v = .bl b) (te := fun σ H Q => ∃ b, σ[i2]? = some (some (.bl b)) ∧ Q (.int (if b then 1 else 0)) H) hot hp hnd (pe_var w1 w2 w3 w4) (by rw [hN, hs]; exact blkOk_by hb) (by rw [hN]; exact hi0) (by rw [ownN_map]; simpa using how) hloc
    (by
      intro s H C cl fp
      have hs' : (X.blk s H scope (compEnvC scope cl C X.env) fp).env.scope = relR scope sc := by rw [← hs]; exact blk_scope s H scope C cl fp
      obtain ⟨y1, y2, y3, y4⟩ := vis_by (X := X.blk s H scope (compEnvC scope cl C X.env) fp) hs' hN hi2
      obtain ⟨_, z2, z3⟩ := gl_by (X := X.blk s H scope (compEnvC scope cl C X.env) fp) hs' hz
      exact PE.imp (pe_callTy call_int1 z2 hmz (by decide +kernel) (pa_cons (pe_var y1 y2 y3 y4) pa_nil) (by decide +kernel) hzd (star_ok rfl _ _) rfl) fun σ H Q ⟨b, h1, h2⟩ => ⟨_, h1, .inr ⟨b, rfl, h2⟩⟩)
    (by
      intro σ x H Q hx hq h
      obtain ⟨b, rfl⟩ := hx
      exact ⟨b, hq, h⟩) (folded_ok rfl X.env)
  refine PE.imp (pe_callB (c_sumH hot hp) h2 hmx (by decide +kernel) (pa_cons key pa_nil (star_ok rfl _ _)) (by decide +kernel) h3 (star_ok rfl _ _) rfl) fun σ H Q ⟨w, st, e, yy⟩ => ?_
  obtain ⟨a, ha, hq⟩ := e.bls he
  refine ⟨.ref a, ha, a, _, rfl, hq, by simpa using hlen, fun v hv => ?_, fun D hD => ⟨D, bs.map fun b => if b then (1 : Int) else 0, rfl, ?_, ?_⟩⟩
  · obtain ⟨b, _, rfl⟩ := List.mem_map.mp hv
    exact ⟨b, rfl⟩
  · refine SqL.of ?_
    rw [upd_same, List.map_map, List.map_map]
    rfl
  · exact yy _ _ _ (PExt.new hD) (.int _)
theorem ER.set {σ : L2.St} {w : Wd} {H : Hp} {st : HSt} (e : ER X g p env σ w H st) {i : Nat} {d : D} {v : V} (r : Rep (Gx X g) w H d v) (h0 : (i == 0) = false) (hlt : i < env.length) : ER X g p (env.set i (some d)) (σ.set i (some v)) w H st := by
  refine ⟨e.wr, by rw [List.length_set, List.length_set, e.len], ?_, fun j d' hj => ?_⟩
  · have h0 : i ≠ 0 := by simpa using h0
    rw [List.getElem?_set_ne h0]; exact e.e0
  · by_cases q : i = j
    · subst q
      rw [List.getElem?_set_self hlt] at hj
      cases hj
      exact ⟨v, List.getElem?_set_self (by rw [e.len]; exact hlt), r⟩
    · rw [List.getElem?_set_ne q] at hj ⊢
      exact e.sl j d' hj
/-- a local name set -/
theorem ts_set {x : Str} {e : Expr} {d dr : D} {i : Nat} {pos pos' : Pos} {rest : List Stmt} (hs : X.env.scope = sc) (hN : X.N = N) (hnd : X.N.Nodup) (hi : slotB N i x = true) (hl : isLocal (lookN sc.names x) = true) (h0 : (i == 0) = false) (hlt : i < env.length)
    (he : PE X e (TH X g p env d)) (hsw : swapsWith e (some (.Name x pos')) pos.line X.env = pure false) (hr : PSs X rest (TSH X g p (env.set i (some d)) dr)) : PSs X (.Assign [.Name x pos'] e pos :: rest) (TSH X g p env dr) := by
  have hloc : X.env.scope.names.lookup x = some .local := by
    rw [hs]
    rw [lookN_eq] at hl
    cases e : sc.names.lookup x with
    | none => rw [e] at hl; cases hl
    | some q => rw [e] at hl; cases q <;> first | rfl | cases hl
  exact PSs.imp (pss_cons (ps_set hnd (by rw [hN]; exact slotB_ok hi) (.inl hloc) he hsw (.inr hloc)) hr) fun D σ H ⟨w, st, e, y⟩ => ⟨w, st, e, fun w1 H1 v x r => ⟨w1, st, (e.pext x).set r h0 hlt, y.pext x⟩⟩
theorem ts_ret {e : Expr} {d : D} {pos : Pos} (he : PE X e (TH X g p env d)) : PSs X [.Return (some e) pos] (TSH X g p env d) :=
  PSs.imp (pss_one (ps_ret he)) fun D σ H h => h
theorem ts_iff {c : Expr} {a rest : List Stmt} {dr : D} {pos : Pos} (hc : PT X c (TTH X g p env false)) (hr : PSs X rest (TSH X g p env dr)) : PSs X (.If c a [] pos :: rest) (TSH X g p env dr) :=
  PSs.imp (pss_cons (ps_if hc pss_never pss_nil) hr) fun D σ H ⟨w, st, e, y⟩ => ⟨w, st, e, fun w1 H1 x => by
    show (if false = true then _ else _)
    rw [if_neg (by decide)]
    exact ⟨w1, st, e.pext x, y.pext x⟩⟩
end
end Ev
namespace Ev
open PySem PySem.Spec PyProof.Rows L2
/-! ### which class the caught exception is of -/
def kindNames : List (List Nat) := [[66, 97, 100, 87, 111, 114, 108, 100], [66, 97, 100, 78, 97, 109, 101], [66, 97, 100, 68, 101, 101, 100], [66, 97, 100, 80, 108, 97, 99, 101, 115], [66, 97, 100, 83, 116, 111, 114, 121], [66, 97, 100, 83, 97, 121, 105, 110, 103], [66, 97, 100, 78, 117, 109, 98, 101, 114], [83, 104, 117, 116], [78, 111, 116, 104, 105, 110, 103], [70, 117, 108, 108], [66, 97, 100, 84, 101, 120, 116]]
def refused (i : Nat) : D := .tup [.str [114, 101, 102, 117, 115, 101, 100], .str (kindNames.getD i [])]
def tdK (c : Nat) : Option D := if Nat.ble 1 c && Nat.ble c 11 then some (refused (c - 1)) else none
def flagsOf (c : Nat) : List Bool := [Nat.beq c 1, Nat.beq c 2, Nat.beq c 3, Nat.beq c 4, Nat.beq c 5, Nat.beq c 6, Nat.beq c 7, Nat.beq c 8, Nat.beq c 9, Nat.beq c 10, Nat.beq c 11]
/-- what is known of the classes -/
structure TermF (K : PySem.W.Frag) (mg : Str → Option Value) (cls : Nat → Addr) (xn : Nat → Str) : Prop where
  isi : mg "isinstance" = none
  sum : mg "sum" = none
  int : mg "int" = none
  ve : mg "ValueError" = none
  nm : ∀ j, 1 ≤ j → j ≤ 11 → mg (xn j) = some (.ref (cls j))
  exc : ∀ c, 1 ≤ c → c ≤ 11 → ExcC K (cls c)
  one : ∀ c j, 1 ≤ c → c ≤ 11 → 1 ≤ j → j ≤ 11 → PySem.W.kitOne K (.ref (cls c)) (.ref (cls j)) = some (Nat.beq c j)
  val : ∀ c, 1 ≤ c → c ≤ 11 → PySem.W.kitOne K (.ref (cls c)) (.type "ValueError") = some true
section
variable {X : Cx} {g : GN} {p : Addr × Obj} {N : List Str} {sc : Scope} {env : List (Option D)} {xn : Nat → Str}
theorem th_isC {x y z : Str} {p1 p2 p3 pos : Pos} {c : Nat} (j : Nat) (hs : X.env.scope = sc) (hN : X.N = N) (hp : p ∈ X.pn) (F : TermF X.K X.mg g.cls xn) (h1 : 1 ≤ c) (h11 : c ≤ 11) (hz : L2N.Zn (.ref (g.cls c)) none p.2) (hf : ∃ vs, p.2.data = .fields vs)
    (hj : (Nat.ble 1 j && Nat.ble j 11) = true) (hx : globB sc x "isinstance" = true) (hy : varB N sc 0 y = true) (hzz : globB sc z (xn j) = true) :
    PE X (.Call (.Name x p1) [.Name y p2, .Name z p3] [] pos) (TH X g p env (.bl (Nat.beq c j))) := by
  simp only [Bool.and_eq_true, Nat.ble_eq] at hj
  obtain ⟨e, z2, z3⟩ := gl_by hs hzz
  exact th_isi hs hN hp (F.exc c h1 h11) hz hf (cv := .ref (g.cls j)) (cu := .ref (g.cls j)) hx F.isi hy (by subst e; exact pe_glob z2 (F.nm j hj.1 hj.2) (v := .ref (g.cls j)) rfl z3) (fun u r => r) (F.one c j h1 h11 hj.1 hj.2)
theorem th_isV {x y z : Str} {p1 p2 p3 pos : Pos} {c : Nat} (hs : X.env.scope = sc) (hN : X.N = N) (hp : p ∈ X.pn) (F : TermF X.K X.mg g.cls xn) (h1 : 1 ≤ c) (h11 : c ≤ 11) (hz : L2N.Zn (.ref (g.cls c)) none p.2) (hf : ∃ vs, p.2.data = .fields vs)
    (hx : globB sc x "isinstance" = true) (hy : varB N sc 0 y = true) (hzz : globB sc z "ValueError" = true) :
    PE X (.Call (.Name x p1) [.Name y p2, .Name z p3] [] pos) (TH X g p env (.bl true)) := by
  obtain ⟨rfl, z2, z3⟩ := gl_by hs hzz
  exact th_isi hs hN hp (F.exc c h1 h11) hz hf (cv := .ty "ValueError") (cu := .type "ValueError") hx F.isi hy (pe_bltn (v := .ty "ValueError") z2 F.ve (by decide +kernel) rfl (by decide +kernel) z3) (fun u r => r) (F.val c h1 h11)
theorem flags_sum : ∀ c, 1 ≤ c → c ≤ 11 → ((flagsOf c).map fun b => if b then (1 : Int) else 0).sum = 1
  | 0, h, _ => by omega
  | 1, _, _ => rfl
  | 2, _, _ => rfl
  | 3, _, _ => rfl
  | 4, _, _ => rfl
  | 5, _, _ => rfl
  | 6, _, _ => rfl
  | 7, _, _ => rfl
  | 8, _, _ => rfl
  | 9, _, _ => rfl
  | 10, _, _ => rfl
  | 11, _, _ => rfl
  | _ + 12, _, h => by omega
theorem flags_at : ∀ c, 1 ≤ c → c ≤ 11 → (flagsOf c)[c - 1]? = some true ∧ ((flagsOf c).take (c - 1)).all (!·) = true ∧ ∃ s, kindNames[c - 1]? = some s ∧ refused (c - 1) = .tup [.str [114, 101, 102, 117, 115, 101, 100], .str s]
  | 0, h, _ => by omega
  | 1, _, _ => ⟨rfl, rfl, _, rfl, rfl⟩
  | 2, _, _ => ⟨rfl, rfl, _, rfl, rfl⟩
  | 3, _, _ => ⟨rfl, rfl, _, rfl, rfl⟩
  | 4, _, _ => ⟨rfl, rfl, _, rfl, rfl⟩
  | 5, _, _ => ⟨rfl, rfl, _, rfl, rfl⟩
  | 6, _, _ => ⟨rfl, rfl, _, rfl, rfl⟩
  | 7, _, _ => ⟨rfl, rfl, _, rfl, rfl⟩
  | 8, _, _ => ⟨rfl, rfl, _, rfl, rfl⟩
  | 9, _, _ => ⟨rfl, rfl, _, rfl, rfl⟩
  | 10, _, _ => ⟨rfl, rfl, _, rfl, rfl⟩
  | 11, _, _ => ⟨rfl, rfl, _, rfl, rfl⟩
  | _ + 12, _, h => by omega
theorem tdK_some {c : Nat} {d : D} (h : tdK c = some d) : 1 ≤ c ∧ c ≤ 11 ∧ d = refused (c - 1) := by
  unfold tdK at h
  split at h
  · rename_i hh
    simp only [Bool.and_eq_true, Nat.ble_eq] at hh
    cases h
    exact ⟨hh.1, hh.2, rfl⟩
  · cases h
theorem idx_name {c : Nat} {s : List Nat} {st : HSt} (h1 : 1 ≤ c) (h11 : c ≤ 11) (h : kindNames[c - 1]? = some s) : idxD st (.lst (kindNames.map D.str)) (.int ((c - 1 : Nat) : Int)) = some (.str s) := by
  show (idxN (kindNames.map D.str).length ((c - 1 : Nat) : Int)).bind (fun j => (kindNames.map D.str)[j]?) = _
  have e : (kindNames.map D.str).length = 11 := rfl
  rw [e]
  unfold idxN
  rw [if_pos (by omega), if_pos (by omega)]
  simp only [Option.bind, Int.toNat_natCast, List.getElem?_map, h, Option.map]
end
section
variable {X : Cx} {gg : GN} {xn : Nat → Str}
theorem termOk_of {st : Stmt} {fd : FuncData} {tx par : Str} {Nt : List Str} (F : FunD X.K tx tx (defArgs st) (defBody st) (defScope st) [] [] (He.ga X.K tx) fd) (hm : X.mg tx = some (.ref (He.ga X.K tx))) (S : FnScope Nt [par] (defScope st)) (hl : Nt.length = 4)
    (bnd : ∀ (kV doc pm : Value) (an : Option Addr) (cdv ct : Value) (us : List Value), us.length = [par].length → bindArgs (PySem.W.fnOf tx tx (defArgs st) (defBody st) (defScope st) .none kV doc pm an cdv ct) ⟨us, []⟩ = pure ([par].zip us))
    (pss : ∀ (X' : Cx) (p : Addr × Obj) (c : Nat), X'.K = X.K → X'.mg = X.mg → X'.env.scope = defScope st → X'.N = Nt → L2H.Hot1 X'.A p → p ∈ X'.pn → X'.A.units + 66 < cLine → 1 ≤ c → c ≤ 11 → L2N.Zn (.ref (gg.cls c)) none p.2 → (∃ vs, p.2.data = .fields vs) → PSs X' (defBody st) (TSH X' gg p [none, none, none, none] (refused (c - 1)))) :
    TermOk X gg tdK tx := by
  obtain ⟨oc, od, dV, kV, doc, pm, an, cdv, ct, osl, efd, lk, hcd, _, _⟩ := id F.ex
  have hb := F.bindsN bnd
  subst efd
  refine ⟨_, _, _, _, dV, kV, doc, pm, cdv, ct, oc, an, od, osl, Nt, par, hm, F.kp, lk, hcd, hb, S, fun A outer s H Q p c d0 w sh htd hz hf hot hr wr y => ?_⟩
  obtain ⟨h1, h11, rfl⟩ := tdK_some htd
  refine ⟨_, pss _ p c rfl rfl rfl rfl hot (List.mem_singleton.mpr rfl) ?_ h1 h11 hz hf, w, sh, ⟨wr, ?_, ?_, fun i d e => ?_⟩, y⟩
  · have := hr.un
    show (A.deeper (envOfC tx (defScope st) s.heap.objs.size (He.ga X.K tx) cdv)).units + 66 < cLine
    omega
  · unfold L2.start; simp; omega
  · unfold L2.start; simp
  · match i with
    | 0 => cases e
    | 1 => cases e
    | 2 => cases e
    | 3 => cases e
    | _ + 4 => simp at e
end
end Ev
namespace Ev
open PySem PySem.Spec PyProof.Rows L2
/-! ### constants of a module -/
section
variable {K : PySem.W.Frag}
mutual
def conV (K : PySem.W.Frag) : Nat → D → Value → Bool
  | _, .non, .none => true
  | _, .bl b, .bool c => b == c
  | _, .int i, .int j _ => i == j
  | _, .str s, .str y _ => decide (y = ⟨s.toArray⟩)
  | n + 1, .tup ds, .ref a => (match K.lookup a with
    | some ⟨.type c, none, .seq its _, _⟩ => decide (c = "tuple") && (decide (its.size ≤ sizeLine) && conVs K n ds its.toList)
    | _ => false)
  | _, _, _ => false
def conVs (K : PySem.W.Frag) : Nat → List D → List Value → Bool
  | _, [], [] => true
  | n, d :: ds, u :: us => conV K n d u && conVs K n ds us
  | _, _, _ => false
end
def ConOk (K : PySem.W.Frag) (d : D) (u : Value) : Prop := ∃ v, L2.RelV v u ∧ ∀ (G : GC) (w : Wd) (H : Hp), G.K = K → Rep G w H d v
mutual
theorem conV_ok : ∀ (n : Nat) (d : D) (u : Value), conV K n d u = true → ConOk K d u
  | n, .non, u, h => by
    cases u <;> first | exact ⟨.non, rfl, fun _ _ _ _ => .non⟩ | (unfold conV at h; cases h)
  | n, .bl b, u, h => by
    cases u <;> first | (unfold conV at h; cases h; done) | skip
    rename_i c
    unfold conV at h
    have e := beq_iff_eq.mp h
    subst e
    exact ⟨.bl b, rfl, fun _ _ _ _ => .bl b⟩
  | n, .int i, u, h => by
    cases u <;> first | (unfold conV at h; cases h; done) | skip
    rename_i c t
    unfold conV at h
    have e := beq_iff_eq.mp h
    subst e
    exact ⟨.int i, ⟨t, rfl⟩, fun _ _ _ _ => .int i⟩
  | n, .str s, u, h => by
    cases u <;> first | (unfold conV at h; cases h; done) | skip
    rename_i c t
    unfold conV at h
    have e := of_decide_eq_true h
    subst e
    exact ⟨.str ⟨s.toArray⟩, ⟨t, rfl⟩, fun _ _ _ _ => .str s⟩
  | 0, .tup ds, u, h => by
    unfold conV at h; cases u <;> cases h
  | n + 1, .tup ds, u, h => by
    cases u <;> first | (unfold conV at h; cases h; done) | skip
    rename_i a
    unfold conV at h
    cases q : K.lookup a with
    | none => rw [q] at h; cases h
    | some o =>
      obtain ⟨oc, od, dt, osl⟩ := o
      rw [q] at h
      cases oc with
      | type c =>
        cases od with
        | none =>
          cases dt with
          | seq its m =>
            simp only [Bool.and_eq_true, decide_eq_true_eq] at h
            obtain ⟨rfl, h2, h3⟩ := h
            obtain ⟨vs, hv, hr⟩ := conVs_ok n ds its.toList h3
            exact ⟨.ref a, rfl, fun G w H hG => .tup (.inr ⟨_, its, m, by rw [hG]; exact q, rfl, rfl, rfl, h2, hv⟩) (hr G w H hG)⟩
          | _ => cases h
        | some d => cases dt <;> cases h
      | _ => cases od <;> cases dt <;> cases h
  | n, .lst _, u, h => by unfold conV at h; cases u <;> cases h
  | n, .fl _, u, h => by unfold conV at h; cases u <;> cases h
  | n, .dk _ _, u, h => by unfold conV at h; cases u <;> cases h
  | n, .obj _ _, u, h => by unfold conV at h; cases u <;> cases h
  | n, .hnd _, u, h => by unfold conV at h; cases u <;> cases h
theorem conVs_ok : ∀ (n : Nat) (ds : List D) (us : List Value), conVs K n ds us = true → ∃ vs, L2.Vals vs us ∧ ∀ (G : GC) (w : Wd) (H : Hp), G.K = K → RepAll G w H ds vs
  | n, [], [], _ => ⟨[], .nil, fun _ _ _ _ => .nil⟩
  | n, [], _ :: _, h => by unfold conVs at h; cases h
  | n, _ :: _, [], h => by unfold conVs at h; cases h
  | n, d :: ds, u :: us, h => by
    unfold conVs at h
    obtain ⟨h1, h2⟩ := Bool.and_eq_true_iff.mp h
    obtain ⟨v, r, hv⟩ := conV_ok n d u h1
    obtain ⟨vs, rs, hvs⟩ := conVs_ok n ds us h2
    exact ⟨v :: vs, .cons r rs, fun G w H hG => .cons (hv G w H hG) (hvs G w H hG)⟩
end
def conB (K : PySem.W.Frag) (x : Str) (d : D) : Bool := match PySem.W.nsIn K mainGlobals x with
  | some (some u) => conV K 6 d u
  | _ => false
theorem conB_ok {h : Heap} {mg : Str → Option Value} (X : K.In h) (G : h.Ns mainGlobals mg) {x : Str} {d : D} (c : conB K x d = true) : ∃ v u, mg x = some u ∧ L2.RelV v u ∧ ∀ (G : GC) (w : Wd) (H : Hp), G.K = K → Rep G w H d v := by
  unfold conB at c
  cases q : PySem.W.nsIn K mainGlobals x with
  | none => rw [q] at c; cases c
  | some o =>
    cases o with
    | none => rw [q] at c; cases c
    | some u =>
      rw [q] at c
      obtain ⟨v, r, h⟩ := conV_ok 6 d u c
      exact ⟨v, u, PySem.W.mg_of X G q, r, h⟩
/-! ### classes -/
def excCB (K : PySem.W.Frag) (a : Addr) : Bool := decide (PySem.W.findIn K (.ref a) "__getattribute__" = some (some (.builtin "BaseException.__getattribute__"))) && (decide (PySem.W.findIn K (.ref a) "__getattr__" = some none) && (decide (PySem.W.subIn K (.ref a) (.type "BaseException") = some true) && (PySem.W.hasDictIn K a &&
  (decide (PySem.W.findIn K (.ref a) "__class__" = some (some (.builtin "object.__class__"))) && (decide (PySem.W.specialIn K (.builtin "object.__class__") "__get__" = some (some (.builtin "getset_descriptor.__get__"))) && (decide (PySem.W.takesIn K (.builtin "object.__class__") = some true) && decide (PySem.W.mroIn K a (.type "object") = some true)))))))
theorem excCB_ok {a : Addr} (h : excCB K a = true) : ExcC K a := by
  unfold excCB at h
  simp only [Bool.and_eq_true, decide_eq_true_eq] at h
  obtain ⟨h1, h2, h3, h4, h5, h6, h7, h8⟩ := h
  exact ⟨h1, h2, h3, h4, h5, h6, h7, h8⟩
def rng : Nat → List Nat
  | 0 => []
  | n + 1 => rng n ++ [n + 1]
theorem mem_rng {n i : Nat} : i ∈ rng n ↔ 1 ≤ i ∧ i ≤ n := by
  induction n with
  | zero => simp [rng]; omega
  | succ n ih => simp [rng, ih]; omega
def clsB (K : PySem.W.Frag) (xn : Nat → Str) : Bool := (rng 11).all fun c => excCB K (He.ga K (xn c)) && (decide (PySem.W.kitOne K (.ref (He.ga K (xn c))) (.type "ValueError") = some true) && ((rng 11).all fun j => decide (PySem.W.kitOne K (.ref (He.ga K (xn c))) (.ref (He.ga K (xn j))) = some (Nat.beq c j))))
theorem clsB_ok {xn : Nat → Str} (h : clsB K xn = true) {c : Nat} (h1 : 1 ≤ c) (h11 : c ≤ 11) : ExcC K (He.ga K (xn c)) ∧ PySem.W.kitOne K (.ref (He.ga K (xn c))) (.type "ValueError") = some true ∧ ∀ j, 1 ≤ j → j ≤ 11 → PySem.W.kitOne K (.ref (He.ga K (xn c))) (.ref (He.ga K (xn j))) = some (Nat.beq c j) := by
  have := List.all_eq_true.mp h c (mem_rng.mpr ⟨h1, h11⟩)
  simp only [Bool.and_eq_true, decide_eq_true_eq] at this
  exact ⟨excCB_ok this.1, this.2.1, fun j a b => of_decide_eq_true (List.all_eq_true.mp this.2.2 j (mem_rng.mpr ⟨a, b⟩))⟩
def tfB (K : PySem.W.Frag) (tf : List Str) : Bool := tf.all fun p => tf.all fun q => !(Nat.beq (He.tabOf K (He.codeOf K (p, none))) (He.tabOf K (He.codeOf K (q, none)))) || decide (p = q)
end
/-! ### a dict of texts and whole numbers -/
def kdB (K : PySem.W.Frag) (x : Str) (hits : List (List Nat × Int)) (miss : List (List Nat)) : Bool :=
  hits.all (fun p => match PySem.W.nsIn K (He.ga K x) ⟨p.1.toArray⟩ with
    | some (some (.int j _)) => j == p.2
    | _ => false) && miss.all fun z => match PySem.W.nsIn K (He.ga K x) ⟨z.toArray⟩ with
    | some none => true
    | _ => false
theorem kdAt_of {K : PySem.W.Frag} {w : World} {mg : Str → Option Value} {x : Str} {hits : List (List Nat × Int)} {miss : List (List Nat)} (hm : mg x = some (.ref (He.ga K x))) (hD : ∃ es n, KDict K w (He.ga K x) es n) (hB : kdB K x hits miss = true) : KdAt K w mg x hits miss := by
  obtain ⟨es, n, D⟩ := hD
  unfold kdB at hB
  obtain ⟨h1, h2⟩ := Bool.and_eq_true_iff.mp hB
  refine ⟨_, es, n, hm, D, fun p hp => ?_, fun z hz => ?_⟩
  · have := List.all_eq_true.mp h1 p hp
    cases q : PySem.W.nsIn K (He.ga K x) ⟨p.1.toArray⟩ with
    | none => rw [q] at this; cases this
    | some o =>
      rw [q] at this
      cases o with
      | none => cases this
      | some u =>
        cases u <;> first | (cases this; done) | skip
        rename_i j tk
        have e : j = p.2 := beq_iff_eq.mp this
        subst e
        exact ⟨_, rfl, ⟨tk, rfl⟩⟩
  · have := List.all_eq_true.mp h2 z hz
    cases q : PySem.W.nsIn K (He.ga K x) ⟨z.toArray⟩ with
    | none => rw [q] at this; cases this
    | some o =>
      rw [q] at this
      cases o with
      | none => rfl
      | some u => cases this
/-! ### what the head tells, put together -/
def frees : List Str := ["len", "all", "any", "sorted", "tuple", "list", "dict", "int", "str", "sum", "max", "min", "isinstance", "enumerate", "zip", "range", "bool", "ValueError", "set"]
def defD (d : FD) (s : Stmt) : He.DefD := ⟨(d.name, none), d.name, d.name, defArgs s, defBody s, defScope s, [], []⟩
def gnOf (K : PySem.W.Frag) (ck : CKS) (tf : List Str) : GN := ⟨fun c => He.ga K (ck.xn c), fun _ => [], tf.map fun p => (He.tabOf K (He.codeOf K (p, none)), lamQ p), fun _ => tdK⟩
section
variable {P : Program} {w : World} {K : PySem.W.Frag} {mg : Str → Option Value} {base h : Heap} {ck : CKS} {con : Nat → Option D} {tab : Nat → Option FD} {lm : Nat → Bool} {sts : Nat → Stmt} {fa : List He.Fa} {fn : List He.DefD} {ts : List He.Tab} {tf : List Str} {ex : PySem.W.Frag → Bool}
theorem free_of (X : K.In h) (G : h.Ns mainGlobals mg) (c : He.SaysX fa fn ts (tf.map fun x => (x, none)) ex w h K) (hf : ∀ x ∈ frees, He.Fa.free x ∈ fa) (x : Str) (hx : x ∈ frees) : mg x = none := He.free_ok X G (c.t.d.facts (hf x hx))
theorem wld_of (X : K.In h) (G : h.Ns mainGlobals mg) (c : He.SaysX fa fn ts (tf.map fun x => (x, none)) ex w h K)
    (hfn : ∀ f d, tab f = some d → FnC (ck.at (lm f)) d (sts f) ∧ defD d (sts f) ∈ fn ∧ He.Fa.glo d.name ∈ fa) (hhas : ∀ f, ck.has f = true → ∃ d, tab f = some d ∧ ck.fn f = d.name)
    (hx : ∀ c, ck.xhas c = true → He.Fa.glo (ck.xn c) ∈ fa ∧ He.Fa.exc (ck.xn c) ∈ fa) (hf : ∀ x ∈ frees, He.Fa.free x ∈ fa) (hcon : ∀ k d, con k = some d → conB K (ck.cn k) d = true) (hkd : ∀ j hits miss, ck.kd j hits miss = true → KdAt K w mg (ck.dn j) hits miss)
    (htf : ∀ f d, tab f = some d → lm f = true → d.name ∈ tf) (htB : tfB K tf = true) (hT : ∀ p ∈ tf, LamX.TabB base mg (He.codeOf K (p, none)) (He.tabOf K (He.codeOf K (p, none))))
    (htold : ∀ j, ck.tld j = true → ∀ X : Cx, X.prog = P → X.w = w → X.K = K → X.mg = mg → X.base = base → Room 2 X.A → ToldAt X (gnOf K ck tf) tdK (ck.tn j)) (f0 : Nat) (d0 : FD) (h0 : tab f0 = some d0) :
    ∃ fds, Wld P w K mg base (gnOf K ck tf) ck con tab lm sts fds := by
  have key : ∀ f, ∃ fd, ∀ d, tab f = some d → FunD K d.name d.name (defArgs (sts f)) (defBody (sts f)) (defScope (sts f)) [] [] (He.ga K d.name) fd := fun f => by
    cases q : tab f with
    | none =>
      obtain ⟨fd, F⟩ := c.t.d.defs (hfn f0 d0 h0).2.1
      exact ⟨fd, fun d e => by cases e⟩
    | some d =>
      obtain ⟨fd, F⟩ := c.t.d.defs (hfn f d q).2.1
      exact ⟨fd, fun d' e => by cases e; exact F⟩
  obtain ⟨fds, hfds⟩ := Classical.axiomOfChoice key
  have fr := free_of X G c hf
  refine ⟨fds, hhas, fun f d e => ⟨(hfn f d e).1, hfds f d e, He.glo_ok X G (c.t.d.facts (hfn f d e).2.2)⟩, fun k hk => ?_, fun b => ?_, fr _ (by decide +kernel), fr _ (by decide +kernel), fr _ (by decide +kernel), fr _ (by decide +kernel), fr _ (by decide +kernel), fun k d e => ?_, hkd, fr _ (by decide +kernel), fun f d e hl => ?_, htold⟩
  · obtain ⟨a1, a2⟩ := hx k hk
    obtain ⟨e1, e2, e3, e4⟩ := He.exc_ok (c.t.d.facts a2)
    exact ⟨He.glo_ok X G (c.t.d.facts a1), e2, e1, e3, e4⟩
  · refine fr _ ?_
    cases b <;> decide +kernel
  · obtain ⟨v, u, h1, h2, h3⟩ := conB_ok X G (hcon k d e)
    exact ⟨v, u, h1, h2, fun w H => h3 _ w H rfl⟩
  · have hm := htf f d e hl
    refine ⟨hT _ hm, List.mem_map.mpr ⟨d.name, hm, rfl⟩, fun p hp e2 => ?_⟩
    obtain ⟨q, hq, rfl⟩ := List.mem_map.mp hp
    have := List.all_eq_true.mp (List.all_eq_true.mp htB q hq) d.name hm
    have e2 : He.tabOf K (He.codeOf K (q, none)) = He.tabOf K (He.codeOf K (d.name, none)) := e2
    rw [e2, Nat.beq_refl] at this
    simp only [Bool.not_true, Bool.false_or, decide_eq_true_eq] at this
    rw [this]
theorem reps_ints {G : GC} {w : Wd} {H : Hp} : ∀ ns : List Int, RepAll G w H (ns.map .int) (ns.map V.int)
  | [] => .nil
  | n :: ns => .cons (.int n) (reps_ints ns)
/-- the law's promise -/
def lawSp (K : PySem.W.Frag) (ck : CKS) (tf : List Str) (C : CT) (f : Nat) : Sp := spC ⟨K, (gnOf K ck tf).cls, (gnOf K ck tf).fnm, (gnOf K ck tf).T⟩ C f 1
theorem lawSp_start {C : CT} {f : Nat} {H : Hp} {a : Addr} {ns : List Int} {st' : HSt} (hc : C f [.fl (ns.map .int)] [] = .ok (.bl true) st') (hT : ∀ p ∈ tf, H (He.tabOf K (He.codeOf K (p, none))) = some (.tbl #[])) (hS : SqL K H a (ns.map V.int)) :
    lawSp K ck tf C f [.ref a] H (fun v _ => v = .bl true) fun _ _ _ => False := by
  refine ⟨⟨fun b => b = a ∧ ∃ o, H b = some o ∧ NTo o, []⟩, [], [.fl (ns.map .int)], ⟨fun b hb => ?_, fun _ hb => (nomatch hb), .nil, rfl, fun n hd e => by simp at e, fun b o hb e => ?_, fun p hp => ?_⟩, .cons (.fl ?_ (reps_ints ns)) .nil, rfl, ?_⟩
  · obtain ⟨_, o, e, _⟩ := hb
    rw [e]; simp
  · obtain ⟨_, o', e', n⟩ := hb
    rw [e] at e'; cases e'; exact n
  · obtain ⟨q, hq, rfl⟩ := List.mem_map.mp hp
    exact ⟨#[], hT q hq, trivial, fun pos cv h => nomatch h⟩
  · rcases hS with (h | ⟨o, h⟩) | h
    · exact .inl ⟨⟨rfl, _, h, fun ps => by simp⟩, .inl h⟩
    · exact .inl ⟨⟨rfl, _, h, fun ps => by simp⟩, .inr ⟨o, h⟩⟩
    · exact .inr h
  · unfold YlF
    rw [hc]
    intro w' H' v _ _ r
    cases r; rfl
end
theorem toldAt_of {X : Cx} {gg : GN} {st : Stmt} {fd : FuncData} {x a : Str} {Ng : List Str} (F : FunD X.K x x (defArgs st) (defBody st) (defScope st) [] [] (He.ga X.K x) fd) (hm : X.mg x = some (.ref (He.ga X.K x))) (S : FnScope Ng [a] (defScope st)) (h0 : Ng[0]? = some a) (hv : Vis (defScope st) a) (hp : plainName a = true)
    (bnd : ∀ (kV doc pm : Value) (an : Option Addr) (cdv ct : Value) (us : List Value), us.length = [a].length → bindArgs (PySem.W.fnOf x x (defArgs st) (defBody st) (defScope st) .none kV doc pm an cdv ct) ⟨us, []⟩ = pure ([a].zip us))
    (hG : ∀ (f : Addr) (cdv : Value) (q : Str), GivesN X Ng x (defScope st) f cdv (defBody st) a q (TTd (Gx X gg) tdK)) : ToldAt X gg tdK x := by
  obtain ⟨oc, od, dV, kV, doc, pm, an, cdv, ct, osl, efd, lk, hcd, _, _⟩ := id F.ex
  have hb := F.bindsN bnd
  subst efd
  exact ⟨_, _, _, _, dV, kV, doc, pm, cdv, ct, oc, an, od, osl, Ng, a, hm, F.kp, lk, hcd, hb, S, h0, hv, hp, fun q => hG _ _ q⟩
theorem termF_of {w : World} {K : PySem.W.Frag} {mg : Str → Option Value} {h : Heap} {fa : List He.Fa} {fn : List He.DefD} {ts : List He.Tab} {tf : List Str} {ex : PySem.W.Frag → Bool} {ck : CKS} (X : K.In h) (G : h.Ns mainGlobals mg) (c : He.SaysX fa fn ts (tf.map fun x => (x, none)) ex w h K)
    (hf : ∀ x ∈ frees, He.Fa.free x ∈ fa) (hx : ∀ j, 1 ≤ j → j ≤ 11 → He.Fa.glo (ck.xn j) ∈ fa) (hcl : clsB K ck.xn = true) : TermF K mg (gnOf K ck tf).cls ck.xn where
  isi := free_of X G c hf _ (by decide +kernel)
  sum := free_of X G c hf _ (by decide +kernel)
  int := free_of X G c hf _ (by decide +kernel)
  ve := free_of X G c hf _ (by decide +kernel)
  nm := fun j h1 h2 => He.glo_ok X G (c.t.d.facts (hx j h1 h2))
  exc := fun i h1 h2 => (clsB_ok hcl h1 h2).1
  one := fun i j h1 h2 h3 h4 => (clsB_ok hcl h1 h2).2.2 j h3 h4
  val := fun i h1 h2 => (clsB_ok hcl h1 h2).2.1
/-- the law is entered -/
theorem lawAt_of {l : PySem.W.OpenLaw} {w : World} {K : PySem.W.Frag} {mg : Str → Option Value} {h : Heap} {fa : List He.Fa} {fn : List He.DefD} {ts : List He.Tab} {tf : List Str} {ex : PySem.W.Frag → Bool} {ck : CKS} {con : Nat → Option D} {tab : Nat → Option FD} {lm : Nat → Bool} {sts : Nat → Stmt} {fu n f : Nat} {d : FD} {x : Str}
    (X : K.In h) (G : h.Ns mainGlobals mg) (c : He.SaysX fa fn ts (tf.map fun x => (x, none)) ex w h K) (hd : tab f = some d) (hx : d.ps = [x]) (hfd : defD d (sts f) ∈ fn) (bnd : FnC (ck.at (lm f)) d (sts f))
    (hW : ∀ base : Heap, K.In base → base.Ns mainGlobals mg → (∀ p ∈ tf, LamX.TabB base mg (He.codeOf K (p, none)) (He.tabOf K (He.codeOf K (p, none)))) → ∃ fds, Wld l.prog w K mg base (gnOf K ck tf) ck con tab lm sts fds)
    (hlaw : ∀ ns : List Int, ns.length ≤ 1000 → ∃ st', evC tab con (fun _ => tdK) fu n f [.fl (ns.map .int)] [] = .ok (.bl true) st') : LamX.LawAtS l w K (L2N.CX l.prog w) (3 * n) 63 x mg (He.ga K d.name) h := by
  obtain ⟨fd, F⟩ := c.t.d.defs hfd
  have bnds := FunD.bindsA (ps := d.ps) F bnd.bnd
  have mem : ∀ p ∈ tf.map (fun x => He.cT K (x, none)), ∃ q, q ∈ tf.map (fun x => ((x, none) : He.Defn)) ∧ p = He.cT K q := fun p hp => by
    obtain ⟨y, hy, rfl⟩ := List.mem_map.mp hp
    exact ⟨_, List.mem_map.mpr ⟨y, hy, rfl⟩, rfl⟩
  refine ⟨fd, tf.map fun x => He.cT K (x, none), lawSp K ck tf (evC tab con (fun _ => tdK) fu n) f, fun p hp => ?_, fun p hp => ?_, fun p hp => ?_, fun s u => ?_, fun H a ns hn _ hT hS => ?_, fun base KX GX hT => ?_⟩
  · obtain ⟨q, hq, rfl⟩ := mem p hp; exact c.empty q hq
  · obtain ⟨q, hq, rfl⟩ := mem p hp; exact c.out q hq
  · obtain ⟨q, hq, rfl⟩ := mem p hp; exact PySem.W.codeHd_of_K X (c.hd q hq)
  · have := bnds s [u] (by rw [hx]; rfl)
    rw [hx] at this
    exact this
  · obtain ⟨st', e⟩ := hlaw ns (by omega)
    exact lawSp_start e (fun p hp => hT _ (List.mem_map.mpr ⟨p, hp, rfl⟩)) hS
  · obtain ⟨fds, W⟩ := hW base KX GX fun p hp => hT _ (List.mem_map.mpr ⟨p, hp, rfl⟩)
    have key := fn_level (fu := fu) W n f d hd
    rw [hx] at key
    obtain ⟨c', F', hm⟩ := W.fn f d hd
    have e : fds f = fd := by
      obtain ⟨_, _, _, _, _, _, _, _, _, _, e1, l1, _⟩ := F.ex
      obtain ⟨_, _, _, _, _, _, _, _, _, _, e2, l2, _⟩ := F'.ex
      have l1 : K.lookup (He.ga K d.name) = _ := l1
      rw [l1] at l2
      cases l2
      rfl
    rw [e] at key
    exact key
theorem mem_at {α : Type} {l : List α} {x : α} (i : Nat) (h : l[i]? = some x := by rfl) : x ∈ l := List.mem_of_getElem? h
end Ev
namespace Ev
open PySem L2
def hits3 : List (List Nat × Int) := [([111, 112, 101, 110], 2), ([115, 104, 117, 116], 2), ([103, 108, 97, 122, 101], 3), ([99, 97, 114, 114, 121], 3), ([103, 111], 3)]
def miss3 : List (List Nat) := [[], [10], [32], [32, 40], [32, 97, 110, 100, 32, 40], [32, 97, 116, 32], [32, 105, 110, 32], [32, 107, 101, 121, 32, 105, 110, 32, 98, 105, 110], [32, 107, 110, 111, 119], [32, 107, 110, 111, 119, 32, 40], [32, 107, 110, 111, 119, 115], [32, 107, 110, 111, 119, 115, 32, 40], [35], [40], [40, 41], [40, 107, 101, 121, 32, 105, 110, 32, 98, 105, 110, 41], [41], [41, 32, 97, 110, 100, 32, 40], [44], [45], [47], [48, 49, 50, 51, 52, 53, 54, 55, 56], [49], [58], [59], [61], [65, 110, 110], [66, 97, 100, 68, 101, 101, 100], [66, 97, 100, 78, 97, 109, 101], [66, 97, 100, 78, 117, 109, 98, 101, 114], [66, 97, 100, 80, 108, 97, 99, 101, 115], [66, 97, 100, 83, 97, 121, 105, 110, 103], [66, 97, 100, 83, 116, 111, 114, 121], [66, 97, 100, 84, 101, 120, 116], [66, 97, 100, 87, 111, 114, 108, 100], [66, 105, 110], [68, 101, 101], [70, 117, 108, 108], [72, 97, 108, 108], [73, 110], [75, 101, 121], [75, 101, 121, 32, 105, 110, 32, 98, 105, 110], [78, 111, 116, 104, 105, 110, 103], [79, 112, 101, 110], [83, 104, 117, 116], [87, 97, 105, 116], [97], [97, 32, 105, 110, 32, 98, 32, 97, 116, 32, 56], [97, 98, 99, 100], [97, 98, 99, 100, 101], [97, 98, 99, 100, 101, 102, 103], [97, 98, 105, 110, 111, 32, 10, 45, 116, 57], [97, 106, 97, 114], [97, 108, 108], [97, 108, 108, 32], [97, 110, 110], [97, 115, 107], [97, 116], [97, 116, 116, 105, 99], [98], [98, 97], [98, 101, 97, 116, 115], [98, 105, 110], [98, 111, 98], [98, 111, 116, 104], [98, 111, 120], [99, 114, 97, 116, 101], [99, 121], [100, 101, 101], [100, 114, 117, 109], [102, 105, 114, 115, 116], [103, 114, 111, 117, 112, 115], [103, 117, 101, 115, 115, 101, 115], [104, 97, 108, 108], [104, 105, 100, 101], [105, 110], [105, 116, 32, 105, 115, 110, 39, 116, 32, 115, 111], [107, 101, 121], [107, 101, 121, 32, 105, 110], [107, 101, 121, 32, 105, 110, 32, 98, 105, 110], [107, 101, 121, 32, 105, 110, 32, 98, 105, 110, 32], [107, 101, 121, 32, 105, 110, 32, 104, 97, 108, 108], [107, 110, 111, 119], [107, 110, 111, 119, 115], [109, 97], [109, 98], [109, 99], [109, 111, 114, 101], [110, 111, 32, 98, 101, 97, 116], [110, 111, 32, 98, 111, 120], [110, 111, 32, 99, 111, 117, 114, 115, 101], [110, 111, 32, 101, 110, 100], [110, 111, 32, 111, 112, 101, 110, 32, 100, 101, 101, 100], [110, 111, 32, 112, 108, 97, 99, 101, 115], [110, 111, 32, 112, 108, 97, 110], [110, 111, 32, 115, 97, 121, 105, 110, 103], [110, 111, 32, 115, 117, 99, 104, 32, 116, 101, 120, 116], [110, 111, 32, 116, 101, 120, 116], [110, 111, 32, 119, 97, 116, 99, 104, 101, 114], [110, 111, 32, 119, 97, 116, 99, 104, 101, 114, 115], [110, 111, 32, 119, 111, 114, 108, 100], [110, 111, 110, 101], [110, 111, 116], [110, 111, 116, 32, 40], [110, 111, 116, 32, 115, 111, 32, 109, 97, 110, 121], [111, 116, 104, 101, 114], [111, 116, 104, 101, 114, 32, 116, 104, 105, 110, 103, 115], [111, 117, 116], [112, 105, 110], [112, 108, 97, 110], [114, 101, 102, 117, 115, 101, 100], [114, 105, 110, 103], [114, 111, 119, 115], [115, 97, 121], [116], [116, 111, 111, 32, 109, 97, 110, 121], [116, 114, 117, 101], [119], [119, 97, 105, 116], [119, 97, 115], [119, 111, 114, 108, 100], [122], [122, 101, 100], [122, 122, 122, 122, 122, 122, 122, 122, 122, 122], [126]]
def hits5 : List (List Nat × Int) := [([105, 110], 3), ([119, 97, 115], 4), ([110, 111, 116], 2), ([98, 111, 116, 104], 3), ([107, 110, 111, 119, 115], 3), ([97, 108, 108], 3)]
def miss5 : List (List Nat) := [[], [10], [32], [32, 40], [32, 97, 110, 100, 32, 40], [32, 97, 116, 32], [32, 105, 110, 32], [32, 107, 101, 121, 32, 105, 110, 32, 98, 105, 110], [32, 107, 110, 111, 119], [32, 107, 110, 111, 119, 32, 40], [32, 107, 110, 111, 119, 115], [32, 107, 110, 111, 119, 115, 32, 40], [35], [40], [40, 41], [40, 107, 101, 121, 32, 105, 110, 32, 98, 105, 110, 41], [41], [41, 32, 97, 110, 100, 32, 40], [44], [45], [47], [48, 49, 50, 51, 52, 53, 54, 55, 56], [49], [58], [59], [61], [65, 110, 110], [66, 97, 100, 68, 101, 101, 100], [66, 97, 100, 78, 97, 109, 101], [66, 97, 100, 78, 117, 109, 98, 101, 114], [66, 97, 100, 80, 108, 97, 99, 101, 115], [66, 97, 100, 83, 97, 121, 105, 110, 103], [66, 97, 100, 83, 116, 111, 114, 121], [66, 97, 100, 84, 101, 120, 116], [66, 97, 100, 87, 111, 114, 108, 100], [66, 105, 110], [68, 101, 101], [70, 117, 108, 108], [72, 97, 108, 108], [73, 110], [75, 101, 121], [75, 101, 121, 32, 105, 110, 32, 98, 105, 110], [78, 111, 116, 104, 105, 110, 103], [79, 112, 101, 110], [83, 104, 117, 116], [87, 97, 105, 116], [97], [97, 32, 105, 110, 32, 98, 32, 97, 116, 32, 56], [97, 98, 99, 100], [97, 98, 99, 100, 101], [97, 98, 99, 100, 101, 102, 103], [97, 98, 105, 110, 111, 32, 10, 45, 116, 57], [97, 106, 97, 114], [97, 108, 108, 32], [97, 110, 110], [97, 115, 107], [97, 116], [97, 116, 116, 105, 99], [98], [98, 97], [98, 101, 97, 116, 115], [98, 105, 110], [98, 111, 98], [98, 111, 120], [99, 97, 114, 114, 121], [99, 114, 97, 116, 101], [99, 121], [100, 101, 101], [100, 114, 117, 109], [102, 105, 114, 115, 116], [103, 108, 97, 122, 101], [103, 111], [103, 114, 111, 117, 112, 115], [103, 117, 101, 115, 115, 101, 115], [104, 97, 108, 108], [104, 105, 100, 101], [105, 116, 32, 105, 115, 110, 39, 116, 32, 115, 111], [107, 101, 121], [107, 101, 121, 32, 105, 110], [107, 101, 121, 32, 105, 110, 32, 98, 105, 110], [107, 101, 121, 32, 105, 110, 32, 98, 105, 110, 32], [107, 101, 121, 32, 105, 110, 32, 104, 97, 108, 108], [107, 110, 111, 119], [109, 97], [109, 98], [109, 99], [109, 111, 114, 101], [110, 111, 32, 98, 101, 97, 116], [110, 111, 32, 98, 111, 120], [110, 111, 32, 99, 111, 117, 114, 115, 101], [110, 111, 32, 101, 110, 100], [110, 111, 32, 111, 112, 101, 110, 32, 100, 101, 101, 100], [110, 111, 32, 112, 108, 97, 99, 101, 115], [110, 111, 32, 112, 108, 97, 110], [110, 111, 32, 115, 97, 121, 105, 110, 103], [110, 111, 32, 115, 117, 99, 104, 32, 116, 101, 120, 116], [110, 111, 32, 116, 101, 120, 116], [110, 111, 32, 119, 97, 116, 99, 104, 101, 114], [110, 111, 32, 119, 97, 116, 99, 104, 101, 114, 115], [110, 111, 32, 119, 111, 114, 108, 100], [110, 111, 110, 101], [110, 111, 116, 32, 40], [110, 111, 116, 32, 115, 111, 32, 109, 97, 110, 121], [111, 112, 101, 110], [111, 116, 104, 101, 114], [111, 116, 104, 101, 114, 32, 116, 104, 105, 110, 103, 115], [111, 117, 116], [112, 105, 110], [112, 108, 97, 110], [114, 101, 102, 117, 115, 101, 100], [114, 105, 110, 103], [114, 111, 119, 115], [115, 97, 121], [115, 104, 117, 116], [116], [116, 111, 111, 32, 109, 97, 110, 121], [116, 114, 117, 101], [119], [119, 97, 105, 116], [119, 111, 114, 108, 100], [122], [122, 101, 100], [122, 122, 122, 122, 122, 122, 122, 122, 122, 122], [126]]
/-- 1 -/
def b_is_word : SS := (.cons (.ret (.and2 (.isi .str (.var 0)) (.and2 (.chn .le .le (.int 1) (.bi .len (.cons (.var 0) .nil)) (.int 8)) (.bi .all_ (.cons (.lc [1] (.nm 1) (.seq (.var 0)) (.op .in_ (.var 1) (.glob 0))) .nil))))) .nil)
def f_is_word : FD := ⟨"is_word", ["thing", "sign"], ["thing"], b_is_word⟩
/-- 2 -/
def b_is_one_of : SS := (.cons (.ret (.and2 (.isi .str (.var 0)) (.op .in_ (.var 0) (.var 1)))) .nil)
def f_is_one_of : FD := ⟨"is_one_of", ["thing", "words"], ["thing", "words"], b_is_one_of⟩
/-- 3 -/
def b_rise : SS := (.cons (.ret (.bi .all_ (.cons (.lc [1, 2] (.tp [(.nm 1), (.nm 2)]) (.zip (.var 0) (.slc (.var 0) (.int 1) .non)) (.op .lt (.op .idx (.var 1) (.int 0)) (.op .idx (.var 2) (.int 0)))) .nil))) .nil)
def f_rise : FD := ⟨"rise", ["rows", "one", "other"], ["rows"], b_rise⟩
/-- 4 -/
def b_are_tuples : SS := (.cons (.iff (.or2 (.not_ (.isi .tuple (.var 0))) (.op .gt (.bi .len (.cons (.var 0) .nil)) (.var 1))) (.cons (.ret (.bl false)) .nil) .nil) (.cons (.iff (.not_ (.bi .all_ (.cons (.lc [3] (.nm 3) (.seq (.var 0)) (.and2 (.isi .tuple (.var 3)) (.and2 (.op .eq (.bi .len (.cons (.var 3) .nil)) (.var 2)) (.call 1 (.cons (.op .idx (.var 3) (.int 0)) .nil))))) .nil))) (.cons (.ret (.bl false)) .nil) .nil) (.cons (.ret (.call 3 (.cons (.var 0) .nil))) .nil)))
def f_are_tuples : FD := ⟨"are_tuples", ["thing", "most", "size", "one"], ["thing", "most", "size"], b_are_tuples⟩
/-- 5 -/
def b_outers : SS := (.cons (.ret (.dc [1] (.nm 1) (.seq (.var 0)) (.op .idx (.var 1) (.int 0)) (.op .idx (.var 1) (.int 1)))) .nil)
def f_outers : FD := ⟨"outers", ["boxes", "box"], ["boxes"], b_outers⟩
/-- 6 -/
def b_over : SS := (.cons (.setO 2 (.lst .nil)) (.cons (.whl (.op .isnot (.op .idx (.var 0) (.var 1)) .non) (.cons (.set (.nm 1) (.op .idx (.var 0) (.var 1))) (.cons (.iff (.or2 (.bor (.op .in_ (.var 1) (.var 2))) (.bor (.op .gt (.bi .len (.cons (.var 2) .nil)) (.bi .len (.cons (.var 0) .nil))))) (.cons (.ret .non) .nil) .nil) (.cons (.app 2 (.var 1)) .nil)))) (.cons (.frz 2) (.cons (.ret (.var 2)) .nil))))
def f_over : FD := ⟨"over", ["outer", "name", "found"], ["outer", "name"], b_over⟩
/-- 7 -/
def b_are_boxes : SS := (.cons (.iff (.or2 (.not_ (.call 4 (.cons (.var 0) (.cons (.int 6) (.cons (.int 4) .nil))))) (.op .eq (.var 0) (.tup .nil))) (.cons (.ret (.bl false)) .nil) .nil) (.cons (.setO 1 (.lc [3] (.nm 3) (.seq (.var 0)) (.op .idx (.var 3) (.int 0)))) (.cons (.iff (.not_ (.bi .all_ (.cons (.lc [3] (.nm 3) (.seq (.var 0)) (.and2 (.call 2 (.cons (.op .idx (.var 3) (.int 2)) (.cons (.glob 1) .nil))) (.call 2 (.cons (.op .idx (.var 3) (.int 3)) (.cons (.glob 2) .nil))))) .nil))) (.cons (.ret (.bl false)) .nil) .nil) (.cons (.frz 1) (.cons (.iff (.not_ (.bi .all_ (.cons (.lc [3] (.nm 3) (.seq (.var 0)) (.or2 (.op .is_ (.op .idx (.var 3) (.int 1)) .non) (.call 2 (.cons (.op .idx (.var 3) (.int 1)) (.cons (.var 1) .nil))))) .nil))) (.cons (.ret (.bl false)) .nil) .nil) (.cons (.iff (.op .ne (.bi .len (.cons (.lcf [3] (.nm 3) (.seq (.var 0)) (.var 3) (.op .is_ (.op .idx (.var 3) (.int 1)) .non)) .nil)) (.int 1)) (.cons (.ret (.bl false)) .nil) .nil) (.cons (.set (.nm 2) (.call 5 (.cons (.var 0) .nil))) (.cons (.ret (.bi .all_ (.cons (.lc [4] (.nm 4) (.seq (.var 1)) (.op .isnot (.call 6 (.cons (.var 2) (.cons (.var 4) .nil))) .non)) .nil))) .nil))))))))
def f_are_boxes : FD := ⟨"are_boxes", ["thing", "names", "outer", "box", "name"], ["thing"], b_are_boxes⟩
/-- 8 -/
def b_is_world : SS := (.cons (.iff (.or2 (.not_ (.isi .tuple (.var 0))) (.or2 (.op .ne (.bi .len (.cons (.var 0) .nil)) (.int 2)) (.or2 (.not_ (.call 7 (.cons (.op .idx (.var 0) (.int 0)) .nil))) (.not_ (.call 4 (.cons (.op .idx (.var 0) (.int 1)) (.cons (.int 4) (.cons (.int 2) .nil)))))))) (.cons (.ret (.bl false)) .nil) .nil) (.cons (.setO 1 (.lc [2] (.nm 2) (.seq (.op .idx (.var 0) (.int 0))) (.op .idx (.var 2) (.int 0)))) (.cons (.frz 1) (.cons (.ret (.bi .all_ (.cons (.lc [3] (.nm 3) (.seq (.op .idx (.var 0) (.int 1))) (.call 2 (.cons (.op .idx (.var 3) (.int 1)) (.cons (.var 1) .nil)))) .nil))) .nil))))
def f_is_world : FD := ⟨"is_world", ["thing", "names", "box", "watcher"], ["thing"], b_is_world⟩
/-- 9 -/
def b_need_world : SS := (.cons (.iff (.not_ (.call 8 (.cons (.var 0) .nil))) (.cons (.raise 1) .nil) .nil) .nil)
def f_need_world : FD := ⟨"need_world", ["thing"], ["thing"], b_need_world⟩
/-- 10 -/
def b_box_names : SS := (.cons (.ret (.lc [1] (.nm 1) (.seq (.op .idx (.var 0) (.int 0))) (.op .idx (.var 1) (.int 0)))) .nil)
def f_box_names : FD := ⟨"box_names", ["world", "box"], ["world"], b_box_names⟩
/-- 11 -/
def b_watcher_names : SS := (.cons (.ret (.lc [1] (.nm 1) (.seq (.op .idx (.var 0) (.int 1))) (.op .idx (.var 1) (.int 0)))) .nil)
def f_watcher_names : FD := ⟨"watcher_names", ["world", "watcher"], ["world"], b_watcher_names⟩
/-- 12 -/
def b_need_box : SS := (.cons (.iff (.not_ (.call 2 (.cons (.var 1) (.cons (.call 10 (.cons (.var 0) .nil)) .nil)))) (.cons (.raise 2) .nil) .nil) .nil)
def f_need_box : FD := ⟨"need_box", ["world", "box"], ["world", "box"], b_need_box⟩
/-- 14 -/
def b_row_of : SS := (.cons (.ret (.op .idx (.lcf [2] (.nm 2) (.seq (.op .idx (.var 0) (.int 0))) (.var 2) (.op .eq (.op .idx (.var 2) (.int 0)) (.var 1))) (.int 0))) .nil)
def f_row_of : FD := ⟨"row_of", ["world", "name", "box"], ["world", "name"], b_row_of⟩
/-- 15 -/
def b_place_of : SS := (.cons (.ret (.op .idx (.bi .dict (.cons (.op .idx (.var 0) (.int 1)) .nil)) (.var 1))) .nil)
def f_place_of : FD := ⟨"place_of", ["world", "watcher"], ["world", "watcher"], b_place_of⟩
/-- 16 -/
def b_within : SS := (.cons (.set (.nm 2) (.call 5 (.cons (.op .idx (.var 0) (.int 0)) .nil))) (.cons (.ret (.lcf [3] (.nm 3) (.seq (.call 10 (.cons (.var 0) .nil))) (.var 3) (.op .in_ (.var 1) (.call 6 (.cons (.var 2) (.cons (.var 3) .nil)))))) .nil))
def f_within : FD := ⟨"within", ["world", "box", "outer", "name"], ["world", "box"], b_within⟩
/-- 17 -/
def b_inside : SS := (.cons (.exp (.call 9 (.cons (.var 0) .nil))) (.cons (.exp (.call 12 (.cons (.var 0) (.cons (.var 1) .nil)))) (.cons (.ret (.call 16 (.cons (.var 0) (.cons (.var 1) .nil)))) .nil)))
def f_inside : FD := ⟨"inside", ["world", "box"], ["world", "box"], b_inside⟩
/-- 49 -/
def b_depth : SS := (.cons (.exp (.call 9 (.cons (.var 0) .nil))) (.cons (.exp (.call 12 (.cons (.var 0) (.cons (.var 1) .nil)))) (.cons (.ret (.bi .len (.cons (.call 6 (.cons (.call 5 (.cons (.op .idx (.var 0) (.int 0)) .nil)) (.cons (.var 1) .nil))) .nil))) .nil)))
def f_depth : FD := ⟨"depth", ["world", "box"], ["world", "box"], b_depth⟩
/-- 18 -/
def b_lets_sight : SS := (.cons (.set (.nm 3) (.call 14 (.cons (.var 0) (.cons (.var 2) .nil)))) (.cons (.iff (.op .eq (.op .idx (.var 3) (.int 1)) (.var 1)) (.cons (.ret (.or2 (.op .eq (.op .idx (.var 3) (.int 2)) (.str [111, 112, 101, 110])) (.op .in_ (.op .idx (.var 3) (.int 3)) (.tup (.cons (.str [105, 110]) (.cons (.str [98, 111, 116, 104]) .nil)))))) .nil) .nil) (.cons (.set (.nm 3) (.call 14 (.cons (.var 0) (.cons (.var 1) .nil)))) (.cons (.ret (.or2 (.op .eq (.op .idx (.var 3) (.int 2)) (.str [111, 112, 101, 110])) (.op .in_ (.op .idx (.var 3) (.int 3)) (.tup (.cons (.str [111, 117, 116]) (.cons (.str [98, 111, 116, 104]) .nil)))))) .nil))))
def f_lets_sight : FD := ⟨"lets_sight", ["world", "one", "other", "row"], ["world", "one", "other"], b_lets_sight⟩
/-- 19 -/
def b_are_next : SS := (.cons (.ret (.or2 (.op .eq (.op .idx (.call 14 (.cons (.var 0) (.cons (.var 1) .nil))) (.int 1)) (.var 2)) (.op .eq (.op .idx (.call 14 (.cons (.var 0) (.cons (.var 2) .nil))) (.int 1)) (.var 1)))) .nil)
def f_are_next : FD := ⟨"are_next", ["world", "one", "other"], ["world", "one", "other"], b_are_next⟩
/-- 50 -/
def b_is_clear : SS := (.cons (.exp (.call 9 (.cons (.var 0) .nil))) (.cons (.exp (.call 12 (.cons (.var 0) (.cons (.var 1) .nil)))) (.cons (.exp (.call 12 (.cons (.var 0) (.cons (.var 2) .nil)))) (.cons (.iff (.not_ (.call 19 (.cons (.var 0) (.cons (.var 1) (.cons (.var 2) .nil))))) (.cons (.raise 9) .nil) .nil) (.cons (.ret (.call 18 (.cons (.var 0) (.cons (.var 1) (.cons (.var 2) .nil))))) .nil)))))
def f_is_clear : FD := ⟨"is_clear", ["world", "one", "other"], ["world", "one", "other"], b_is_clear⟩
/-- 26 -/
def b_seen_from : SS := (.cons (.par [2, 3] [(true, (.lst (.cons (.var 1) .nil))), (true, (.lst (.cons (.var 1) .nil)))]) (.cons (.whl (.bor (.op .ne (.var 3) (.lst .nil))) (.cons (.pop 4 3) (.cons (.for_ (.nm 5) (.seq (.call 10 (.cons (.var 0) .nil))) (.cons (.iff (.and2 (.bor (.op .notin (.var 5) (.var 2))) (.and2 (.call 19 (.cons (.var 0) (.cons (.var 4) (.cons (.var 5) .nil)))) (.call 18 (.cons (.var 0) (.cons (.var 4) (.cons (.var 5) .nil)))))) (.cons (.app 2 (.var 5)) (.cons (.app 3 (.var 5)) .nil)) .nil) .nil)) .nil))) (.cons (.frz 2) (.cons (.ret (.bi .sorted (.cons (.var 2) .nil))) .nil))))
def f_seen_from : FD := ⟨"seen_from", ["world", "box", "found", "work", "here", "other"], ["world", "box"], b_seen_from⟩
/-- 27 -/
def b_seen_by_one : SS := (.cons (.ret (.call 26 (.cons (.var 0) (.cons (.call 15 (.cons (.var 0) (.cons (.var 1) .nil))) .nil)))) .nil)
def f_seen_by_one : FD := ⟨"seen_by_one", ["world", "watcher"], ["world", "watcher"], b_seen_by_one⟩
/-- 51 -/
def b_all_seers : SS := (.cons (.ret (.lcf [2] (.nm 2) (.seq (.call 11 (.cons (.var 0) .nil))) (.var 2) (.op .in_ (.var 1) (.call 27 (.cons (.var 0) (.cons (.var 2) .nil)))))) .nil)
def f_all_seers : FD := ⟨"all_seers", ["world", "box", "watcher"], ["world", "box"], b_all_seers⟩
/-- 52 -/
def b_seers : SS := (.cons (.exp (.call 9 (.cons (.var 0) .nil))) (.cons (.exp (.call 12 (.cons (.var 0) (.cons (.var 1) .nil)))) (.cons (.ret (.call 51 (.cons (.var 0) (.cons (.var 1) .nil)))) .nil)))
def f_seers : FD := ⟨"seers", ["world", "box"], ["world", "box"], b_seers⟩
/-- 53 -/
def b_alone : SS := (.cons (.exp (.call 9 (.cons (.var 0) .nil))) (.cons (.exp (.call 12 (.cons (.var 0) (.cons (.var 1) .nil)))) (.cons (.set (.nm 2) (.call 51 (.cons (.var 0) (.cons (.var 1) .nil)))) (.cons (.ret (.ife (.op .eq (.bi .len (.cons (.var 2) .nil)) (.int 1)) (.op .idx (.var 2) (.int 0)) .non)) .nil))))
def f_alone : FD := ⟨"alone", ["world", "box", "some"], ["world", "box"], b_alone⟩
/-- 38 -/
def b_law_cell : SS := (.cons (.iff (.op .eq (.var 0) (.lst .nil)) (.cons (.ret (.op .mul (.var 1) (.int 7919))) .nil) .nil) (.cons (.ret (.op .add (.op .idx (.var 0) (.op .mod (.var 1) (.bi .len (.cons (.var 0) .nil)))) (.op .mul (.op .fdiv (.var 1) (.bi .len (.cons (.var 0) .nil))) (.int 104729)))) .nil))
def f_law_cell : FD := ⟨"_law_cell", ["_law_script", "_law_k"], ["_law_script", "_law_k"], b_law_cell⟩
/-- 39 -/
def b_law_drawn : SS := (.cons (.set (.nm 2) (.op .mod (.op .add (.op .mul (.var 0) (.int 6364136223846793005)) (.op .mul (.op .add (.var 1) (.int 1)) (.int 1442695040888963407))) (.int 340282366920938463463374607431768211507))) (.cons (.set (.nm 2) (.op .mod (.op .mul (.var 2) (.var 2)) (.int 340282366920938463463374607431768211297))) (.cons (.set (.nm 2) (.op .mul (.op .mul (.op .add (.op .mod (.var 2) (.int 18446744073709551557)) (.int 1)) (.op .add (.op .fdiv (.var 2) (.int 18446744073709551557)) (.int 1))) (.var 2))) (.cons (.ret (.op .mod (.var 2) (.int 340282366920938463463374607431768211507))) .nil))))
def f_law_drawn : FD := ⟨"_law_drawn", ["_law_cell_here", "_law_k", "_law_more"], ["_law_cell_here", "_law_k"], b_law_drawn⟩
/-- 40 -/
def b_law_roll : SS := (.cons (.iff (.op .ge (.op .idx (.var 0) (.int 0)) (.op .pow (.int 10) (.int 18))) (.cons (.set (.nm 2) (.op .mod (.op .idx (.var 0) (.int 0)) (.var 1))) (.cons (.putH (.var 0) (.int 0) (.op .fdiv (.op .idx (.var 0) (.int 0)) (.var 1))) (.cons (.ret (.var 2)) .nil))) .nil) (.cons (.putH (.var 0) (.int 1) (.op .add (.op .idx (.var 0) (.int 1)) (.int 1))) (.cons (.ret (.op .mod (.op .fdiv (.call 39 (.cons (.op .idx (.var 0) (.int 0)) (.cons (.op .idx (.var 0) (.int 1)) .nil))) (.int 8)) (.var 1))) .nil)))
def f_law_roll : FD := ⟨"_law_roll", ["_law_dice", "_law_many", "_law_told_here"], ["_law_dice", "_law_many"], b_law_roll⟩
/-- 41 -/
def b_law_rounds : SS := (.cons (.ret (.lc [2] (.nm 2) (.range (.bi .max2 (.cons (.int 1) (.cons (.bi .min2 (.cons (.var 1) (.cons (.bi .len (.cons (.var 0) .nil)) .nil))) .nil)))) (.lstH (.cons (.call 38 (.cons (.var 0) (.cons (.var 2) .nil))) (.cons (.int 0) .nil))))) .nil)
def f_law_rounds : FD := ⟨"_law_rounds", ["_law_script", "_law_high", "_law_k"], ["_law_script", "_law_high"], b_law_rounds⟩
/-- 44 -/
def b_law_any_world : SS := (.cons (.set (.nm 2) (.slc (.lst (.cons (.str [104, 97, 108, 108]) (.cons (.str [98, 105, 110]) (.cons (.str [99, 114, 97, 116, 101]) (.cons (.str [100, 114, 117, 109]) .nil))))) .non (.op .add (.int 1) (.call 40 (.cons (.var 0) (.cons (.var 1) .nil)))))) (.cons (.setO 3 (.lst (.cons (.tup (.cons (.str [104, 97, 108, 108]) (.cons .non (.cons (.op .idx (.lst (.cons (.str [111, 112, 101, 110]) (.cons (.str [115, 104, 117, 116]) .nil))) (.call 40 (.cons (.var 0) (.cons (.int 2) .nil)))) (.cons (.str [110, 111, 110, 101]) .nil))))) .nil))) (.cons (.for_ (.tp [(.nm 6), (.nm 5)]) (.enum (.slc (.var 2) (.int 1) .non)) (.cons (.set (.nm 7) (.op .idx (.var 2) (.call 40 (.cons (.var 0) (.cons (.op .add (.var 6) (.int 1)) .nil))))) (.cons (.par [8, 9] [(false, (.op .idx (.lst (.cons (.str [111, 112, 101, 110]) (.cons (.str [115, 104, 117, 116]) (.cons (.str [115, 104, 117, 116]) .nil)))) (.call 40 (.cons (.var 0) (.cons (.int 3) .nil))))), (false, (.op .idx (.lst (.cons (.str [110, 111, 110, 101]) (.cons (.str [105, 110]) (.cons (.str [111, 117, 116]) (.cons (.str [98, 111, 116, 104]) .nil))))) (.call 40 (.cons (.var 0) (.cons (.int 4) .nil)))))]) (.cons (.app 3 (.tup (.cons (.var 5) (.cons (.var 7) (.cons (.var 8) (.cons (.var 9) .nil)))))) .nil)))) (.cons (.setO 4 (.lst .nil)) (.cons (.for_ (.nm 5) (.seq (.slc (.lst (.cons (.str [97, 110, 110]) (.cons (.str [98, 111, 98]) (.cons (.str [99, 121]) .nil)))) .non (.op .add (.int 1) (.call 40 (.cons (.var 0) (.cons (.int 3) .nil)))))) (.cons (.app 4 (.tup (.cons (.var 5) (.cons (.op .idx (.var 2) (.call 40 (.cons (.var 0) (.cons (.bi .len (.cons (.var 2) .nil)) .nil)))) .nil)))) .nil)) (.cons (.frz 3) (.cons (.frz 4) (.cons (.ret (.tup (.cons (.bi .tuple (.cons (.skey (.var 3)) .nil)) (.cons (.bi .tuple (.cons (.var 4) .nil)) .nil)))) .nil))))))))
def f_law_any_world_v2 : FD := ⟨"_law_any_world", ["_law_dice", "_law_high", "_law_names_here", "_law_boxes", "_law_watchers", "_law_name", "_law_at", "_law_outer_here", "_law_lid", "_law_windows"], ["_law_dice", "_law_high"], b_law_any_world⟩
/-- 55 -/
def b_law_names : SS := (.cons (.ret (.lc [1] (.nm 1) (.seq (.op .idx (.var 0) (.int 0))) (.op .idx (.var 1) (.int 0)))) .nil)
def f_law_names : FD := ⟨"_law_names", ["_law_world", "_law_box"], ["_law_world"], b_law_names⟩
/-- 56 -/
def b_law_outer : SS := (.cons (.ret (.bi .dict (.cons (.lc [1] (.nm 1) (.seq (.op .idx (.var 0) (.int 0))) (.tup (.cons (.op .idx (.var 1) (.int 0)) (.cons (.op .idx (.var 1) (.int 1)) .nil)))) .nil))) .nil)
def f_law_outer : FD := ⟨"_law_outer", ["_law_world", "_law_box"], ["_law_world"], b_law_outer⟩
/-- 57 -/
def b_law_chain_up : SS := (.cons (.par [2, 3] [(false, (.call 56 (.cons (.var 0) .nil))), (true, (.lst .nil))]) (.cons (.whl (.op .isnot (.op .idx (.var 2) (.var 1)) .non) (.cons (.set (.nm 1) (.op .idx (.var 2) (.var 1))) (.cons (.app 3 (.var 1)) .nil))) (.cons (.frz 3) (.cons (.ret (.var 3)) .nil))))
def f_law_chain_up : FD := ⟨"_law_chain_up", ["_law_world", "_law_box", "_law_outer_here", "_law_found"], ["_law_world", "_law_box"], b_law_chain_up⟩
/-- 58 -/
def b_law_sights : SS := (.cons (.setO 1 (.lst .nil)) (.cons (.for_ (.tp [(.nm 2), (.nm 3), (.nm 4), (.nm 5)]) (.seq (.op .idx (.var 0) (.int 0))) (.cons (.iff (.and2 (.op .isnot (.var 3) .non) (.or2 (.op .eq (.var 4) (.str [111, 112, 101, 110])) (.op .in_ (.var 5) (.tup (.cons (.str [105, 110]) (.cons (.str [98, 111, 116, 104]) .nil)))))) (.cons (.app 1 (.tup (.cons (.var 3) (.cons (.var 2) .nil)))) .nil) .nil) (.cons (.iff (.and2 (.op .isnot (.var 3) .non) (.or2 (.op .eq (.var 4) (.str [111, 112, 101, 110])) (.op .in_ (.var 5) (.tup (.cons (.str [111, 117, 116]) (.cons (.str [98, 111, 116, 104]) .nil)))))) (.cons (.app 1 (.tup (.cons (.var 2) (.cons (.var 3) .nil)))) .nil) .nil) .nil))) (.cons (.frz 1) (.cons (.ret (.var 1)) .nil))))
def f_law_sights : FD := ⟨"_law_sights", ["_law_world", "_law_found", "_law_name", "_law_outer_here", "_law_lid", "_law_windows"], ["_law_world"], b_law_sights⟩
/-- 59 -/
def b_law_k02 : SS := (.cons (.for_ (.nm 1) (.seq (.call 41 (.cons (.var 0) (.cons (.int 5) .nil)))) (.cons (.set (.nm 2) (.call 44 (.cons (.var 1) (.cons (.int 4) .nil)))) (.cons (.par [5, 6] [(false, (.call 55 (.cons (.var 2) .nil))), (false, (.call 58 (.cons (.var 2) .nil)))]) (.cons (.for_ (.nm 3) (.seq (.var 5)) (.cons (.set (.nm 7) (.bi .sorted (.cons (.lcf [11] (.nm 11) (.seq (.var 5)) (.var 11) (.op .in_ (.var 3) (.call 57 (.cons (.var 2) (.cons (.var 11) .nil))))) .nil))) (.cons (.iff (.or2 (.op .ne (.call 17 (.cons (.var 2) (.cons (.var 3) .nil))) (.var 7)) (.op .ne (.call 49 (.cons (.var 2) (.cons (.var 3) .nil))) (.bi .len (.cons (.call 57 (.cons (.var 2) (.cons (.var 3) .nil))) .nil)))) (.cons (.ret (.bl false)) .nil) .nil) (.cons (.for_ (.nm 8) (.seq (.var 5)) (.cons (.set (.nm 10) (.or2 (.op .eq (.op .idx (.call 56 (.cons (.var 2) .nil)) (.var 3)) (.var 8)) (.op .eq (.op .idx (.call 56 (.cons (.var 2) .nil)) (.var 8)) (.var 3)))) (.cons (.set (.nm 7) (.ife (.var 10) (.op .in_ (.tup (.cons (.var 3) (.cons (.var 8) .nil))) (.var 6)) (.tup (.cons (.str [114, 101, 102, 117, 115, 101, 100]) (.cons (.str [78, 111, 116, 104, 105, 110, 103]) .nil))))) (.cons (.iff (.op .ne (.told 43 (.call 50 (.cons (.var 2) (.cons (.var 3) (.cons (.var 8) .nil))))) (.var 7)) (.cons (.ret (.bl false)) .nil) .nil) .nil)))) .nil)))) (.cons (.for_ (.nm 4) (.seq (.lst (.cons .non (.cons (.int 5) (.cons (.str []) (.cons (.str [97, 116, 116, 105, 99]) (.cons (.str [72, 97, 108, 108]) (.cons (.tup (.cons (.str [104, 97, 108, 108]) .nil)) .nil)))))))) (.cons (.setO 9 (.lst (.cons (.told 43 (.call 17 (.cons (.var 2) (.cons (.var 4) .nil)))) .nil))) (.cons (.app 9 (.told 43 (.call 49 (.cons (.var 2) (.cons (.var 4) .nil))))) (.cons (.app 9 (.told 43 (.call 50 (.cons (.var 2) (.cons (.var 4) (.cons .non .nil)))))) (.cons (.app 9 (.told 43 (.call 50 (.cons (.var 2) (.cons (.str [104, 97, 108, 108]) (.cons (.var 4) .nil)))))) (.cons (.app 9 (.told 43 (.call 52 (.cons (.var 2) (.cons (.var 4) .nil))))) (.cons (.app 9 (.told 43 (.call 53 (.cons (.var 2) (.cons (.var 4) .nil))))) (.cons (.iff (.bor (.op .ne (.var 9) (.op .mul (.lst (.cons (.tup (.cons (.str [114, 101, 102, 117, 115, 101, 100]) (.cons (.str [66, 97, 100, 78, 97, 109, 101]) .nil))) .nil)) (.int 6)))) (.cons (.ret (.bl false)) .nil) .nil) .nil)))))))) .nil))))) (.cons (.ret (.bl true)) .nil))
def f_law_k02 : FD := ⟨"law", ["_law_script", "_law_dice", "_law_world", "_law_box", "_law_bad", "_law_names_here", "_law_pairs", "_law_due", "_law_other", "_law_made", "_law_near", "_law_name"], ["_law_script"], b_law_k02⟩
/-- 13 -/
def b_need_watcher : SS := (.cons (.iff (.not_ (.call 2 (.cons (.var 1) (.cons (.call 11 (.cons (.var 0) .nil)) .nil)))) (.cons (.raise 2) .nil) .nil) .nil)
def f_need_watcher : FD := ⟨"need_watcher", ["world", "watcher"], ["world", "watcher"], b_need_watcher⟩
/-- 28 -/
def b_seen : SS := (.cons (.exp (.call 9 (.cons (.var 0) .nil))) (.cons (.exp (.call 13 (.cons (.var 0) (.cons (.var 1) .nil)))) (.cons (.ret (.call 27 (.cons (.var 0) (.cons (.var 1) .nil)))) .nil)))
def f_seen : FD := ⟨"seen", ["world", "watcher"], ["world", "watcher"], b_seen⟩
/-- 60 -/
def b_need_both : SS := (.cons (.exp (.call 9 (.cons (.var 0) .nil))) (.cons (.exp (.call 13 (.cons (.var 0) (.cons (.var 1) .nil)))) (.cons (.exp (.call 12 (.cons (.var 0) (.cons (.var 2) .nil)))) .nil)))
def f_need_both : FD := ⟨"need_both", ["world", "watcher", "box"], ["world", "watcher", "box"], b_need_both⟩
/-- 61 -/
def b_way : SS := (.cons (.exp (.call 60 (.cons (.var 0) (.cons (.var 1) (.cons (.var 2) .nil))))) (.cons (.set (.nm 3) (.call 62 (.cons (.var 0) (.cons (.call 15 (.cons (.var 0) (.cons (.var 1) .nil))) (.cons (.var 2) .nil))))) (.cons (.ret (.ife (.op .in_ (.var 2) (.call 27 (.cons (.var 0) (.cons (.var 1) .nil)))) (.var 3) .non)) .nil)))
def f_way : FD := ⟨"way", ["world", "watcher", "box", "found"], ["world", "watcher", "box"], b_way⟩
/-- 62 -/
def b_path_between : SS := (.cons (.par [4, 5] [(true, (.dct1 1)), (true, (.lst (.cons (.var 1) .nil)))]) (.cons (.whl (.bor (.op .ne (.var 5) (.lst .nil))) (.cons (.pop 6 5) (.cons (.for_ (.nm 7) (.seq (.call 10 (.cons (.var 0) .nil))) (.cons (.iff (.and2 (.bor (.op .notin (.var 7) (.var 4))) (.call 19 (.cons (.var 0) (.cons (.var 6) (.cons (.var 7) .nil))))) (.cons (.put 4 (.var 7) (.var 6)) (.cons (.app 5 (.var 7)) .nil)) .nil) .nil)) .nil))) (.cons (.set (.nm 3) (.lst (.cons (.var 2) .nil))) (.cons (.whl (.bor (.op .isnot (.op .idx (.var 4) (.op .idx (.var 3) (.int 0))) .non)) (.cons (.set (.nm 3) (.op .add (.lst (.cons (.idxO 4 (.op .idx (.var 3) (.int 0))) .nil)) (.var 3))) .nil)) (.cons (.ret (.var 3)) .nil)))))
def f_path_between : FD := ⟨"path_between", ["world", "one", "other", "found", "ahead", "work", "here", "more"], ["world", "one", "other"], b_path_between⟩
/-- 63 -/
def b_same_sight : SS := (.cons (.exp (.call 9 (.cons (.var 0) .nil))) (.cons (.exp (.call 13 (.cons (.var 0) (.cons (.var 1) .nil)))) (.cons (.exp (.call 13 (.cons (.var 0) (.cons (.var 2) .nil)))) (.cons (.ret (.op .eq (.call 27 (.cons (.var 0) (.cons (.var 1) .nil))) (.call 27 (.cons (.var 0) (.cons (.var 2) .nil))))) .nil))))
def f_same_sight : FD := ⟨"same_sight", ["world", "one", "other"], ["world", "one", "other"], b_same_sight⟩
/-- 64 -/
def b_dim : SS := (.cons (.exp (.call 60 (.cons (.var 0) (.cons (.var 1) (.cons (.var 2) .nil))))) (.cons (.set (.nm 3) (.call 62 (.cons (.var 0) (.cons (.call 15 (.cons (.var 0) (.cons (.var 1) .nil))) (.cons (.var 2) .nil))))) (.cons (.ret (.bi .len (.cons (.lcf [4, 5] (.tp [(.nm 4), (.nm 5)]) (.zip (.var 3) (.slc (.var 3) (.int 1) .non)) (.int 1) (.not_ (.call 18 (.cons (.var 0) (.cons (.var 4) (.cons (.var 5) .nil)))))) .nil))) .nil)))
def f_dim : FD := ⟨"dim", ["world", "watcher", "box", "row", "one", "other"], ["world", "watcher", "box"], b_dim⟩
def f_law_any_world_v3 : FD := ⟨"_law_any_world", ["_law_dice", "_law_high", "_law_names_here", "_law_boxes", "_law_watchers", "_law_name", "_law_at", "_law_outer", "_law_lid", "_law_windows"], ["_law_dice", "_law_high"], b_law_any_world⟩
/-- 66 -/
def b_law_who : SS := (.cons (.ret (.lc [1] (.nm 1) (.seq (.op .idx (.var 0) (.int 1))) (.op .idx (.var 1) (.int 0)))) .nil)
def f_law_who : FD := ⟨"_law_who", ["_law_world", "_law_watcher"], ["_law_world"], b_law_who⟩
def f_law_sights_v2 : FD := ⟨"_law_sights", ["_law_world", "_law_found", "_law_name", "_law_outer", "_law_lid", "_law_windows"], ["_law_world"], b_law_sights⟩
/-- 68 -/
def b_law_seen : SS := (.cons (.par [3, 4] [(false, (.call 58 (.cons (.var 0) .nil))), (false, (.lst (.cons (.op .idx (.bi .dict (.cons (.op .idx (.var 0) (.int 1)) .nil)) (.var 1)) .nil)))]) (.cons (.for_ (.nm 2) (.seq (.op .idx (.var 0) (.int 0))) (.cons (.set (.nm 4) (.op .add (.var 4) (.lcf [5, 6] (.tp [(.nm 5), (.nm 6)]) (.seq (.var 3)) (.var 6) (.and2 (.op .in_ (.var 5) (.var 4)) (.op .notin (.var 6) (.var 4)))))) .nil)) (.cons (.ret (.x1 .sset (.var 4))) .nil)))
def f_law_seen : FD := ⟨"_law_seen", ["_law_world", "_law_watcher", "_law_turn", "_law_pairs", "_law_found", "_law_one", "_law_other"], ["_law_world", "_law_watcher"], b_law_seen⟩
/-- 69 -/
def b_law_no_watchers : SS := (.cons (.for_ (.nm 1) (.seq (.lst (.cons .non (.cons (.int 5) (.cons (.str []) (.cons (.str [122, 101, 100]) (.cons (.str [65, 110, 110]) (.cons (.str [104, 97, 108, 108]) .nil)))))))) (.cons (.setO 2 (.lst (.cons (.told 43 (.call 28 (.cons (.var 0) (.cons (.var 1) .nil)))) .nil))) (.cons (.app 2 (.told 43 (.call 61 (.cons (.var 0) (.cons (.var 1) (.cons .non .nil)))))) (.cons (.app 2 (.told 43 (.call 64 (.cons (.var 0) (.cons (.var 1) (.cons .non .nil)))))) (.cons (.app 2 (.told 43 (.call 63 (.cons (.var 0) (.cons (.var 1) (.cons .non .nil)))))) (.cons (.app 2 (.told 43 (.call 63 (.cons (.var 0) (.cons (.str [97, 110, 110]) (.cons (.var 1) .nil)))))) (.cons (.frz 2) (.cons (.iff (.op .ne (.op .add (.var 2) (.lst (.cons (.told 43 (.call 61 (.cons (.var 0) (.cons (.str [97, 110, 110]) (.cons (.str [97, 116, 116, 105, 99]) .nil))))) .nil))) (.op .mul (.lst (.cons (.tup (.cons (.str [114, 101, 102, 117, 115, 101, 100]) (.cons (.str [66, 97, 100, 78, 97, 109, 101]) .nil))) .nil)) (.int 6))) (.cons (.ret (.bl false)) .nil) .nil) .nil)))))))) (.cons (.ret (.bl true)) .nil))
def f_law_no_watchers : FD := ⟨"_law_no_watchers", ["_law_world", "_law_bad", "_law_made"], ["_law_world"], b_law_no_watchers⟩
/-- 70 -/
def b_law_k03 : SS := (.cons (.for_ (.nm 1) (.seq (.call 41 (.cons (.var 0) (.cons (.int 5) .nil)))) (.cons (.set (.nm 2) (.call 44 (.cons (.var 1) (.cons (.int 4) .nil)))) (.cons (.par [6, 7] [(false, (.call 55 (.cons (.var 2) .nil))), (false, (.call 66 (.cons (.var 2) .nil)))]) (.cons (.par [8, 9] [(false, (.call 58 (.cons (.var 2) .nil))), (true, (.dct .nil .nil))]) (.cons (.for_ (.nm 3) (.seq (.var 7)) (.cons (.put 9 (.var 3) (.call 68 (.cons (.var 2) (.cons (.var 3) .nil)))) (.cons (.iff (.op .ne (.call 28 (.cons (.var 2) (.cons (.var 3) .nil))) (.idxO 9 (.var 3))) (.cons (.ret (.bl false)) .nil) .nil) (.cons (.for_ (.nm 4) (.seq (.var 6)) (.cons (.set (.nm 12) (.call 61 (.cons (.var 2) (.cons (.var 3) (.cons (.var 4) .nil))))) (.cons (.iff (.bor (.op .ne (.op .isnot (.var 12) .non) (.op .in_ (.var 4) (.op .idx (.var 9) (.var 3))))) (.cons (.ret (.bl false)) .nil) .nil) (.cons (.iff (.op .ne (.op .eq (.call 64 (.cons (.var 2) (.cons (.var 3) (.cons (.var 4) .nil)))) (.int 0)) (.op .isnot (.var 12) .non)) (.cons (.ret (.bl false)) .nil) .nil) (.cons (.iff (.and2 (.op .isnot (.var 12) .non) (.or2 (.op .ne (.op .idx (.var 12) (.int 0)) (.op .idx (.bi .dict (.cons (.op .idx (.var 2) (.int 1)) .nil)) (.var 3))) (.op .ne (.op .idx (.var 12) (.int (-1))) (.var 4)))) (.cons (.ret (.bl false)) .nil) .nil) (.cons (.iff (.and2 (.op .isnot (.var 12) .non) (.op .lt (.x1 .lset (.var 12)) (.bi .len (.cons (.var 12) .nil)))) (.cons (.ret (.bl false)) .nil) .nil) (.cons (.iff (.and2 (.op .isnot (.var 12) .non) (.op .ne (.lcf [5] (.nm 5) (.zip (.var 12) (.slc (.var 12) (.int 1) .non)) (.var 5) (.op .notin (.var 5) (.var 8))) (.lst .nil))) (.cons (.ret (.bl false)) .nil) .nil) .nil))))))) .nil)))) (.cons (.for_ (.nm 4) (.seq (.var 6)) (.cons (.setO 10 (.lcf [3] (.nm 3) (.seq (.var 7)) (.var 3) (.bor (.op .in_ (.var 4) (.op .idx (.var 9) (.var 3)))))) (.cons (.frz 10) (.cons (.iff (.or2 (.op .ne (.call 52 (.cons (.var 2) (.cons (.var 4) .nil))) (.var 10)) (.op .ne (.call 53 (.cons (.var 2) (.cons (.var 4) .nil))) (.ife (.bor (.op .eq (.bi .len (.cons (.var 10) .nil)) (.int 1))) (.idxO 10 (.int 0)) .non))) (.cons (.ret (.bl false)) .nil) .nil) .nil)))) (.cons (.for_ (.nm 5) (.seq (.var 7)) (.cons (.for_ (.nm 11) (.seq (.var 7)) (.cons (.iff (.op .ne (.call 63 (.cons (.var 2) (.cons (.var 5) (.cons (.var 11) .nil)))) (.bor (.op .eq (.op .idx (.var 9) (.var 5)) (.op .idx (.var 9) (.var 11))))) (.cons (.ret (.bl false)) .nil) .nil) .nil)) .nil)) (.cons (.iff (.not_ (.call 69 (.cons (.var 2) .nil))) (.cons (.ret (.bl false)) .nil) .nil) .nil)))))))) (.cons (.ret (.bl true)) .nil))
def f_law_k03 : FD := ⟨"law", ["_law_script", "_law_dice", "_law_world", "_law_watcher", "_law_box", "_law_one", "_law_names_here", "_law_who_here", "_law_pairs", "_law_sights_here", "_law_some", "_law_other", "_law_row"], ["_law_script"], b_law_k03⟩
/-- 20 -/
def b_is_open_deed : SS := (.cons (.iff (.or2 (.not_ (.isi .tuple (.var 1))) (.or2 (.op .eq (.var 1) (.tup .nil)) (.not_ (.isi .str (.op .idx (.var 1) (.int 0)))))) (.cons (.ret (.bl false)) .nil) .nil) (.cons (.iff (.op .ne (.bi .len (.cons (.var 1) .nil)) (.x2 (.kget 3 hits3 miss3) (.op .idx (.var 1) (.int 0)) (.int 0))) (.cons (.ret (.bl false)) .nil) .nil) (.cons (.set (.nm 2) (.call 10 (.cons (.var 0) .nil))) (.cons (.iff (.op .eq (.op .idx (.var 1) (.int 0)) (.str [103, 111])) (.cons (.ret (.and2 (.call 2 (.cons (.op .idx (.var 1) (.int 1)) (.cons (.call 11 (.cons (.var 0) .nil)) .nil))) (.call 2 (.cons (.op .idx (.var 1) (.int 2)) (.cons (.var 2) .nil))))) .nil) .nil) (.cons (.iff (.or2 (.not_ (.call 2 (.cons (.op .idx (.var 1) (.int 1)) (.cons (.var 2) .nil)))) (.op .is_ (.op .idx (.call 14 (.cons (.var 0) (.cons (.op .idx (.var 1) (.int 1)) .nil))) (.int 1)) .non)) (.cons (.ret (.bl false)) .nil) .nil) (.cons (.iff (.op .eq (.op .idx (.var 1) (.int 0)) (.str [103, 108, 97, 122, 101])) (.cons (.ret (.call 2 (.cons (.op .idx (.var 1) (.int 2)) (.cons (.glob 2) .nil)))) .nil) .nil) (.cons (.ret (.or2 (.op .ne (.op .idx (.var 1) (.int 0)) (.str [99, 97, 114, 114, 121])) (.call 2 (.cons (.op .idx (.var 1) (.int 2)) (.cons (.var 2) .nil))))) .nil)))))))
def f_is_open_deed : FD := ⟨"is_open_deed", ["world", "thing", "names"], ["world", "thing"], b_is_open_deed⟩
/-- 71 -/
def b_need_deed : SS := (.cons (.iff (.not_ (.call 20 (.cons (.var 0) (.cons (.var 1) .nil)))) (.cons (.raise 3) .nil) .nil) .nil)
def f_need_deed : FD := ⟨"need_deed", ["world", "thing"], ["world", "thing"], b_need_deed⟩
/-- 21 -/
def b_fits : SS := (.cons (.iff (.op .eq (.op .idx (.var 1) (.int 0)) (.str [103, 111])) (.cons (.ret (.call 19 (.cons (.var 0) (.cons (.call 15 (.cons (.var 0) (.cons (.op .idx (.var 1) (.int 1)) .nil))) (.cons (.op .idx (.var 1) (.int 2)) .nil))))) .nil) .nil) (.cons (.set (.tp [(.nm 2), (.nm 3), (.nm 4), (.nm 5)]) (.call 14 (.cons (.var 0) (.cons (.op .idx (.var 1) (.int 1)) .nil)))) (.cons (.iff (.op .eq (.op .idx (.var 1) (.int 0)) (.str [103, 108, 97, 122, 101])) (.cons (.ret (.op .ne (.var 5) (.op .idx (.var 1) (.int 2)))) .nil) .nil) (.cons (.iff (.op .eq (.op .idx (.var 1) (.int 0)) (.str [99, 97, 114, 114, 121])) (.cons (.ret (.and2 (.op .notin (.op .idx (.var 1) (.int 2)) (.tup (.cons (.var 3) (.cons (.var 2) .nil)))) (.op .notin (.op .idx (.var 1) (.int 2)) (.call 16 (.cons (.var 0) (.cons (.var 2) .nil)))))) .nil) .nil) (.cons (.ret (.op .ne (.var 4) (.ife (.op .eq (.op .idx (.var 1) (.int 0)) (.str [111, 112, 101, 110])) (.str [111, 112, 101, 110]) (.str [115, 104, 117, 116])))) .nil)))))
def f_fits : FD := ⟨"fits", ["world", "deed", "name", "outer", "lid", "windows"], ["world", "deed"], b_fits⟩
/-- 22 -/
def b_lids_in_way : SS := (.cons (.iff (.op .eq (.op .idx (.var 1) (.int 0)) (.str [103, 111])) (.cons (.set (.nm 3) (.call 15 (.cons (.var 0) (.cons (.op .idx (.var 1) (.int 1)) .nil)))) (.cons (.ret (.lst (.cons (.ife (.op .eq (.op .idx (.call 14 (.cons (.var 0) (.cons (.op .idx (.var 1) (.int 2)) .nil))) (.int 1)) (.var 3)) (.op .idx (.var 1) (.int 2)) (.var 3)) .nil))) .nil)) .nil) (.cons (.iff (.op .ne (.op .idx (.var 1) (.int 0)) (.str [99, 97, 114, 114, 121])) (.cons (.ret (.lst .nil)) .nil) .nil) (.cons (.set (.nm 2) (.call 5 (.cons (.op .idx (.var 0) (.int 0)) .nil))) (.cons (.par [4, 5] [(false, (.call 6 (.cons (.var 2) (.cons (.op .idx (.var 1) (.int 1)) .nil)))), (false, (.op .add (.lst (.cons (.op .idx (.var 1) (.int 2)) .nil)) (.call 6 (.cons (.var 2) (.cons (.op .idx (.var 1) (.int 2)) .nil)))))]) (.cons (.ret (.op .add (.lcf [6] (.nm 6) (.seq (.var 4)) (.var 6) (.op .notin (.var 6) (.var 5))) (.lcf [6] (.nm 6) (.seq (.var 5)) (.var 6) (.op .notin (.var 6) (.var 4))))) .nil)))))
def f_lids_in_way : FD := ⟨"lids_in_way", ["world", "deed", "outer", "here", "elder", "newer", "name"], ["world", "deed"], b_lids_in_way⟩
/-- 23 -/
def b_is_free : SS := (.cons (.ret (.bi .all_ (.cons (.lc [2] (.nm 2) (.seq (.call 22 (.cons (.var 0) (.cons (.var 1) .nil)))) (.op .eq (.op .idx (.call 14 (.cons (.var 0) (.cons (.var 2) .nil))) (.int 2)) (.str [111, 112, 101, 110]))) .nil))) .nil)
def f_is_free : FD := ⟨"is_free", ["world", "deed", "name"], ["world", "deed"], b_is_free⟩
/-- 72 -/
def b_turned : SS := (.cons (.set (.tp [(.nm 2), (.nm 3), (.nm 4), (.nm 5)]) (.var 0)) (.cons (.iff (.or2 (.op .eq (.op .idx (.var 1) (.int 0)) (.str [103, 111])) (.op .ne (.var 2) (.op .idx (.var 1) (.int 1)))) (.cons (.ret (.var 0)) .nil) .nil) (.cons (.iff (.op .eq (.op .idx (.var 1) (.int 0)) (.str [103, 108, 97, 122, 101])) (.cons (.ret (.tup (.cons (.var 2) (.cons (.var 3) (.cons (.var 4) (.cons (.op .idx (.var 1) (.int 2)) .nil)))))) .nil) .nil) (.cons (.iff (.op .eq (.op .idx (.var 1) (.int 0)) (.str [99, 97, 114, 114, 121])) (.cons (.ret (.tup (.cons (.var 2) (.cons (.op .idx (.var 1) (.int 2)) (.cons (.var 4) (.cons (.var 5) .nil)))))) .nil) .nil) (.cons (.ret (.tup (.cons (.var 2) (.cons (.var 3) (.cons (.ife (.op .eq (.op .idx (.var 1) (.int 0)) (.str [111, 112, 101, 110])) (.str [111, 112, 101, 110]) (.str [115, 104, 117, 116])) (.cons (.var 5) .nil)))))) .nil)))))
def f_turned : FD := ⟨"turned", ["box", "deed", "name", "outer", "lid", "windows"], ["box", "deed"], b_turned⟩
/-- 73 -/
def b_led_on : SS := (.cons (.iff (.not_ (.call 21 (.cons (.var 0) (.cons (.var 1) .nil)))) (.cons (.raise 9) .nil) .nil) (.cons (.iff (.not_ (.call 23 (.cons (.var 0) (.cons (.var 1) .nil)))) (.cons (.raise 8) .nil) .nil) (.cons (.set (.nm 2) (.op .idx (.var 0) (.int 1))) (.cons (.iff (.op .eq (.op .idx (.var 1) (.int 0)) (.str [103, 111])) (.cons (.set (.nm 2) (.bi .tuple (.cons (.lc [4, 3] (.tp [(.nm 4), (.nm 3)]) (.seq (.var 2)) (.tup (.cons (.var 4) (.cons (.ife (.op .eq (.var 4) (.op .idx (.var 1) (.int 1))) (.op .idx (.var 1) (.int 2)) (.var 3)) .nil)))) .nil))) .nil) .nil) (.cons (.ret (.tup (.cons (.bi .tuple (.cons (.lc [3] (.nm 3) (.seq (.op .idx (.var 0) (.int 0))) (.call 72 (.cons (.var 3) (.cons (.var 1) .nil)))) .nil)) (.cons (.var 2) .nil)))) .nil)))))
def f_led_on : FD := ⟨"led_on", ["world", "deed", "watchers", "box", "name"], ["world", "deed"], b_led_on⟩
/-- 74 -/
def b_done : SS := (.cons (.exp (.call 9 (.cons (.var 0) .nil))) (.cons (.exp (.call 71 (.cons (.var 0) (.cons (.var 1) .nil)))) (.cons (.ret (.call 73 (.cons (.var 0) (.cons (.var 1) .nil)))) .nil)))
def f_done : FD := ⟨"done", ["world", "deed"], ["world", "deed"], b_done⟩
def f_law_roll_v2 : FD := ⟨"_law_roll", ["_law_dice", "_law_many", "_law_told"], ["_law_dice", "_law_many"], b_law_roll⟩
/-- 76 -/
def b_law_way : SS := (.cons (.par [4, 5] [(false, (.op .add (.lst (.cons (.var 1) .nil)) (.call 57 (.cons (.var 0) (.cons (.var 1) .nil))))), (false, (.op .add (.lst (.cons (.var 2) .nil)) (.call 57 (.cons (.var 0) (.cons (.var 2) .nil)))))]) (.cons (.set (.nm 3) (.op .idx (.lcf [6] (.nm 6) (.seq (.var 4)) (.var 6) (.op .in_ (.var 6) (.var 5))) (.int 0))) (.cons (.ret (.op .add (.slc (.var 4) .non (.op .add (.x2 .index (.var 4) (.var 3)) (.int 1))) (.rev (.slc (.var 5) .non (.x2 .index (.var 5) (.var 3)))))) .nil)))
def f_law_way : FD := ⟨"_law_way", ["_law_world", "_law_one", "_law_other", "_law_meet", "_law_up", "_law_down", "_law_box"], ["_law_world", "_law_one", "_law_other"], b_law_way⟩
/-- 77 -/
def b_law_k04 : SS := (.cons (.for_ (.nm 1) (.seq (.call 41 (.cons (.var 0) (.cons (.int 5) .nil)))) (.cons (.set (.nm 2) (.call 44 (.cons (.var 1) (.cons (.int 4) .nil)))) (.cons (.set (.nm 3) (.call 55 (.cons (.var 2) .nil))) (.cons (.for_ (.nm 4) (.seq (.call 66 (.cons (.var 2) .nil))) (.cons (.for_ (.nm 5) (.seq (.var 3)) (.cons (.set (.nm 6) (.call 76 (.cons (.var 2) (.cons (.op .idx (.bi .dict (.cons (.op .idx (.var 2) (.int 1)) .nil)) (.var 4)) (.cons (.var 5) .nil))))) (.cons (.par [7, 8] [(false, (.x2 .zipL (.var 6) (.slc (.var 6) (.int 1) .non))), (false, (.var 2))]) (.cons (.iff (.op .ne (.call 64 (.cons (.var 2) (.cons (.var 4) (.cons (.var 5) .nil)))) (.bi .len (.cons (.lcf [13] (.nm 13) (.seq (.var 7)) (.var 13) (.op .notin (.var 13) (.call 58 (.cons (.var 2) .nil)))) .nil))) (.cons (.ret (.bl false)) .nil) .nil) (.cons (.iff (.and2 (.op .in_ (.var 5) (.call 28 (.cons (.var 2) (.cons (.var 4) .nil)))) (.op .ne (.call 61 (.cons (.var 2) (.cons (.var 4) (.cons (.var 5) .nil)))) (.var 6))) (.cons (.ret (.bl false)) .nil) .nil) (.cons (.for_ (.tp [(.nm 9), (.nm 10)]) (.seq (.var 7)) (.cons (.iff (.op .notin (.tup (.cons (.var 9) (.cons (.var 10) .nil))) (.call 58 (.cons (.var 8) .nil))) (.cons (.set (.nm 11) (.ife (.op .eq (.op .idx (.call 56 (.cons (.var 2) .nil)) (.var 10)) (.var 9)) (.var 10) (.var 9))) (.cons (.set (.nm 12) (.call 64 (.cons (.var 8) (.cons (.var 4) (.cons (.var 5) .nil))))) (.cons (.set (.nm 8) (.call 74 (.cons (.var 8) (.cons (.tup (.cons (.str [111, 112, 101, 110]) (.cons (.var 11) .nil))) .nil)))) (.cons (.iff (.op .ne (.call 64 (.cons (.var 8) (.cons (.var 4) (.cons (.var 5) .nil)))) (.op .sub (.var 12) (.int 1))) (.cons (.ret (.bl false)) .nil) .nil) .nil)))) .nil) .nil)) (.cons (.iff (.op .notin (.var 5) (.call 28 (.cons (.var 8) (.cons (.var 4) .nil)))) (.cons (.ret (.bl false)) .nil) .nil) .nil))))))) .nil)) .nil)))) (.cons (.ret (.bl true)) .nil))
def f_law_k04 : FD := ⟨"law", ["_law_script", "_law_dice", "_law_world", "_law_names_here", "_law_watcher", "_law_box", "_law_row", "_law_pairs", "_law_here", "_law_one", "_law_other", "_law_inner", "_law_many", "_law_pair"], ["_law_script"], b_law_k04⟩
/-- 78 -/
def b_is_deed : SS := (.cons (.exp (.call 9 (.cons (.var 0) .nil))) (.cons (.ret (.call 20 (.cons (.var 0) (.cons (.var 1) .nil)))) .nil))
def f_is_deed : FD := ⟨"is_deed", ["world", "thing"], ["world", "thing"], b_is_deed⟩
/-- 79 -/
def b_can_do : SS := (.cons (.exp (.call 9 (.cons (.var 0) .nil))) (.cons (.exp (.call 71 (.cons (.var 0) (.cons (.var 1) .nil)))) (.cons (.ret (.and2 (.call 21 (.cons (.var 0) (.cons (.var 1) .nil))) (.call 23 (.cons (.var 0) (.cons (.var 1) .nil))))) .nil)))
def f_can_do : FD := ⟨"can_do", ["world", "deed"], ["world", "deed"], b_can_do⟩
/-- 24 -/
def b_every_deed : SS := (.cons (.par [3, 4] [(false, (.lst .nil)), (false, (.call 10 (.cons (.var 0) .nil)))]) (.cons (.for_ (.nm 1) (.seq (.var 4)) (.cons (.set (.nm 3) (.op .add (.op .add (.var 3) (.lst (.cons (.tup (.cons (.str [111, 112, 101, 110]) (.cons (.var 1) .nil))) (.cons (.tup (.cons (.str [115, 104, 117, 116]) (.cons (.var 1) .nil))) .nil)))) (.lc [6] (.nm 6) (.seq (.glob 2)) (.tup (.cons (.str [103, 108, 97, 122, 101]) (.cons (.var 1) (.cons (.var 6) .nil))))))) (.cons (.set (.nm 3) (.op .add (.var 3) (.lc [7] (.nm 7) (.seq (.var 4)) (.tup (.cons (.str [99, 97, 114, 114, 121]) (.cons (.var 1) (.cons (.var 7) .nil))))))) (.cons (.set (.nm 3) (.op .add (.var 3) (.lc [8] (.nm 8) (.seq (.call 11 (.cons (.var 0) .nil))) (.tup (.cons (.str [103, 111]) (.cons (.var 8) (.cons (.var 1) .nil))))))) .nil)))) (.cons (.setO 2 (.lcf [5] (.nm 5) (.seq (.var 3)) (.var 5) (.call 20 (.cons (.var 0) (.cons (.var 5) .nil))))) (.cons (.ret (.bi .sorted (.cons (.lcf [5] (.nm 5) (.own 2) (.var 5) (.and2 (.call 21 (.cons (.var 0) (.cons (.var 5) .nil))) (.call 23 (.cons (.var 0) (.cons (.var 5) .nil))))) .nil))) .nil))))
def f_every_deed : FD := ⟨"every_deed", ["world", "name", "good", "some", "names", "deed", "windows", "other", "watcher"], ["world"], b_every_deed⟩
/-- 25 -/
def b_all_deeds : SS := (.cons (.exp (.call 9 (.cons (.var 0) .nil))) (.cons (.ret (.call 24 (.cons (.var 0) .nil))) .nil))
def f_all_deeds : FD := ⟨"all_deeds", ["world"], ["world"], b_all_deeds⟩
/-- 80 -/
def b_law_led : SS := (.cons (.par [3, 4, 5] [(false, (.call 56 (.cons (.var 0) .nil))), (true, (.dct .nil .nil)), (false, (.op .idx (.var 1) (.int 0)))]) (.cons (.for_ (.tp [(.nm 2), (.nm 6), (.nm 7), (.nm 8)]) (.seq (.op .idx (.var 0) (.int 0))) (.cons (.put 4 (.var 2) (.lst (.cons (.var 6) (.cons (.var 7) (.cons (.var 8) .nil))))) .nil)) (.cons (.iff (.op .eq (.var 5) (.str [103, 111])) (.cons (.set (.nm 9) (.op .idx (.bi .dict (.cons (.op .idx (.var 0) (.int 1)) .nil)) (.op .idx (.var 1) (.int 1)))) (.cons (.iff (.and2 (.op .ne (.op .idx (.var 3) (.var 9)) (.op .idx (.var 1) (.int 2))) (.op .ne (.op .idx (.var 3) (.op .idx (.var 1) (.int 2))) (.var 9))) (.cons (.ret (.tup (.cons (.str [114, 101, 102, 117, 115, 101, 100]) (.cons (.str [78, 111, 116, 104, 105, 110, 103]) .nil)))) .nil) .nil) (.cons (.iff (.op .eq (.op .idx (.idxO 4 (.ife (.op .eq (.op .idx (.var 3) (.op .idx (.var 1) (.int 2))) (.var 9)) (.op .idx (.var 1) (.int 2)) (.var 9))) (.int 1)) (.str [115, 104, 117, 116])) (.cons (.ret (.tup (.cons (.str [114, 101, 102, 117, 115, 101, 100]) (.cons (.str [83, 104, 117, 116]) .nil)))) .nil) .nil) (.cons (.ret (.tup (.cons (.op .idx (.var 0) (.int 0)) (.cons (.bi .tuple (.cons (.lc [2, 14] (.tp [(.nm 2), (.nm 14)]) (.seq (.op .idx (.var 0) (.int 1))) (.tup (.cons (.var 2) (.cons (.ife (.op .eq (.var 2) (.op .idx (.var 1) (.int 1))) (.op .idx (.var 1) (.int 2)) (.var 14)) .nil)))) .nil)) .nil)))) .nil)))) .nil) (.cons (.set (.nm 2) (.op .idx (.var 1) (.int 1))) (.cons (.iff (.op .eq (.var 5) (.str [99, 97, 114, 114, 121])) (.cons (.iff (.or2 (.op .eq (.op .idx (.var 1) (.int 2)) (.var 2)) (.or2 (.op .eq (.op .idx (.var 1) (.int 2)) (.op .idx (.var 3) (.var 2))) (.op .in_ (.var 2) (.call 57 (.cons (.var 0) (.cons (.op .idx (.var 1) (.int 2)) .nil)))))) (.cons (.ret (.tup (.cons (.str [114, 101, 102, 117, 115, 101, 100]) (.cons (.str [78, 111, 116, 104, 105, 110, 103]) .nil)))) .nil) .nil) (.cons (.par [10, 11] [(false, (.call 57 (.cons (.var 0) (.cons (.var 2) .nil)))), (false, (.op .add (.lst (.cons (.op .idx (.var 1) (.int 2)) .nil)) (.call 57 (.cons (.var 0) (.cons (.op .idx (.var 1) (.int 2)) .nil)))))]) (.cons (.iff (.op .ne (.lcf [14] (.nm 14) (.seq (.op .add (.var 10) (.var 11))) (.var 14) (.and2 (.op .ne (.op .in_ (.var 14) (.var 10)) (.op .in_ (.var 14) (.var 11))) (.bor (.op .eq (.op .idx (.op .idx (.var 4) (.var 14)) (.int 1)) (.str [115, 104, 117, 116]))))) (.lst .nil)) (.cons (.ret (.tup (.cons (.str [114, 101, 102, 117, 115, 101, 100]) (.cons (.str [83, 104, 117, 116]) .nil)))) .nil) .nil) (.cons (.putH (.idxO 4 (.var 2)) (.int 0) (.op .idx (.var 1) (.int 2))) .nil)))) (.cons (.set (.tp [(.nm 12), (.nm 13)]) (.op .idx (.lst (.cons (.tup (.cons (.int 1) (.cons (.str [111, 112, 101, 110]) .nil))) (.cons (.tup (.cons (.int 1) (.cons (.str [115, 104, 117, 116]) .nil))) (.cons (.tup (.cons (.int 2) (.cons (.op .idx (.var 1) (.int (-1))) .nil))) .nil)))) (.x2 .index (.lst (.cons (.str [111, 112, 101, 110]) (.cons (.str [115, 104, 117, 116]) (.cons (.str [103, 108, 97, 122, 101]) .nil)))) (.var 5)))) (.cons (.iff (.bor (.op .eq (.op .idx (.op .idx (.var 4) (.var 2)) (.var 12)) (.var 13))) (.cons (.ret (.tup (.cons (.str [114, 101, 102, 117, 115, 101, 100]) (.cons (.str [78, 111, 116, 104, 105, 110, 103]) .nil)))) .nil) .nil) (.cons (.putH (.idxO 4 (.var 2)) (.var 12) (.var 13)) .nil)))) (.cons (.frz 4) (.cons (.ret (.tup (.cons (.bi .tuple (.cons (.lc [15] (.nm 15) (.seq (.bi .sorted (.cons (.var 4) .nil))) (.op .add (.tup (.cons (.var 15) .nil)) (.bi .tuple (.cons (.idxO 4 (.var 15)) .nil)))) .nil)) (.cons (.op .idx (.var 0) (.int 1)) .nil)))) .nil)))))))
def f_law_led : FD := ⟨"_law_led", ["_law_world", "_law_deed", "_law_name", "_law_outer_here", "_law_boxes", "_law_word", "_law_out", "_law_lid", "_law_windows", "_law_here", "_law_left", "_law_right", "_law_at", "_law_part", "_law_box", "_law_one"], ["_law_world", "_law_deed"], b_law_led⟩
/-- 81 -/
def b_law_every_deed : SS := (.cons (.par [3, 4] [(false, (.lst .nil)), (false, (.call 55 (.cons (.var 0) .nil)))]) (.cons (.for_ (.nm 1) (.seq (.lcf [5] (.nm 5) (.seq (.var 4)) (.var 5) (.op .ne (.var 5) (.str [104, 97, 108, 108])))) (.cons (.set (.nm 3) (.op .add (.var 3) (.lst (.cons (.tup (.cons (.str [111, 112, 101, 110]) (.cons (.var 1) .nil))) (.cons (.tup (.cons (.str [115, 104, 117, 116]) (.cons (.var 1) .nil))) .nil))))) (.cons (.set (.nm 3) (.op .add (.var 3) (.lc [6] (.nm 6) (.seq (.lst (.cons (.str [110, 111, 110, 101]) (.cons (.str [105, 110]) (.cons (.str [111, 117, 116]) (.cons (.str [98, 111, 116, 104]) .nil)))))) (.tup (.cons (.str [103, 108, 97, 122, 101]) (.cons (.var 1) (.cons (.var 6) .nil))))))) (.cons (.set (.nm 3) (.op .add (.var 3) (.lc [7] (.nm 7) (.seq (.var 4)) (.tup (.cons (.str [99, 97, 114, 114, 121]) (.cons (.var 1) (.cons (.var 7) .nil))))))) .nil)))) (.cons (.for_ (.nm 2) (.seq (.call 66 (.cons (.var 0) .nil))) (.cons (.set (.nm 3) (.op .add (.var 3) (.lc [1] (.nm 1) (.seq (.var 4)) (.tup (.cons (.str [103, 111]) (.cons (.var 2) (.cons (.var 1) .nil))))))) .nil)) (.cons (.ret (.var 3)) .nil))))
def f_law_every_deed : FD := ⟨"_law_every_deed", ["_law_world", "_law_name", "_law_watcher", "_law_found", "_law_names_here", "_law_one", "_law_windows", "_law_other"], ["_law_world"], b_law_every_deed⟩
/-- 82 -/
def b_law_k05 : SS := (.cons (.for_ (.nm 1) (.seq (.call 41 (.cons (.var 0) (.cons (.int 4) .nil)))) (.cons (.set (.nm 2) (.call 44 (.cons (.var 1) (.cons (.int 4) .nil)))) (.cons (.par [6, 7] [(false, (.call 81 (.cons (.var 2) .nil))), (false, (.lst .nil))]) (.cons (.for_ (.nm 3) (.seq (.var 6)) (.cons (.set (.nm 8) (.call 80 (.cons (.var 2) (.cons (.var 3) .nil)))) (.cons (.set (.nm 9) (.op .ne (.op .idx (.var 8) (.int 0)) (.str [114, 101, 102, 117, 115, 101, 100]))) (.cons (.iff (.or2 (.op .isnot (.call 78 (.cons (.var 2) (.cons (.var 3) .nil))) (.bl true)) (.op .ne (.call 79 (.cons (.var 2) (.cons (.var 3) .nil))) (.var 9))) (.cons (.ret (.bl false)) .nil) .nil) (.cons (.iff (.op .ne (.told 43 (.call 74 (.cons (.var 2) (.cons (.var 3) .nil)))) (.var 8)) (.cons (.ret (.bl false)) .nil) .nil) (.cons (.iff (.and2 (.var 9) (.or2 (.not_ (.call 8 (.cons (.var 8) .nil))) (.op .eq (.var 8) (.var 2)))) (.cons (.ret (.bl false)) .nil) .nil) (.cons (.set (.nm 7) (.op .add (.var 7) (.op .mul (.lst (.cons (.var 3) .nil)) (.bi .int (.cons (.var 9) .nil))))) .nil))))))) (.cons (.iff (.op .ne (.call 25 (.cons (.var 2) .nil)) (.bi .sorted (.cons (.var 7) .nil))) (.cons (.ret (.bl false)) .nil) .nil) (.cons (.set (.nm 4) (.lst (.cons .non (.cons (.int 5) (.cons (.tup .nil) (.cons (.tup (.cons (.str [111, 112, 101, 110]) .nil)) (.cons (.tup (.cons (.str [111, 112, 101, 110]) (.cons (.str [104, 97, 108, 108]) .nil))) (.cons (.tup (.cons (.str [115, 104, 117, 116]) (.cons (.str [97, 116, 116, 105, 99]) .nil))) .nil)))))))) (.cons (.set (.nm 4) (.op .add (.var 4) (.lst (.cons (.tup (.cons (.str [103, 108, 97, 122, 101]) (.cons (.str [104, 97, 108, 108]) (.cons (.str [105, 110]) .nil)))) (.cons (.tup (.cons (.str [79, 112, 101, 110]) (.cons (.str [98, 105, 110]) .nil))) (.cons (.lst (.cons (.str [111, 112, 101, 110]) (.cons (.str [98, 105, 110]) .nil))) .nil)))))) (.cons (.set (.nm 4) (.op .add (.var 4) (.lst (.cons (.tup (.cons (.str [103, 111]) (.cons (.str [97, 110, 110]) (.cons (.str [97, 116, 116, 105, 99]) .nil)))) .nil)))) (.cons (.set (.nm 4) (.op .add (.var 4) (.lst (.cons (.tup (.cons (.str [103, 111]) (.cons (.str [122, 101, 100]) (.cons (.str [104, 97, 108, 108]) .nil)))) (.cons (.tup (.cons (.str [99, 97, 114, 114, 121]) (.cons (.str [104, 97, 108, 108]) (.cons (.str [98, 105, 110]) .nil)))) (.cons (.tup (.cons (.str [103, 108, 97, 122, 101]) (.cons (.str [98, 105, 110]) .nil))) .nil)))))) (.cons (.set (.nm 4) (.op .add (.var 4) (.lst (.cons (.tup (.cons (.str [111, 112, 101, 110]) (.cons (.str [98, 105, 110]) (.cons (.str [98, 105, 110]) .nil)))) (.cons (.tup (.cons (.str [119, 97, 105, 116]) .nil)) (.cons (.tup (.cons (.int 5) (.cons (.str [98, 105, 110]) .nil))) .nil)))))) (.cons (.for_ (.nm 5) (.seq (.var 4)) (.cons (.setO 10 (.lst (.cons (.told 43 (.call 79 (.cons (.var 2) (.cons (.var 5) .nil)))) .nil))) (.cons (.app 10 (.told 43 (.call 74 (.cons (.var 2) (.cons (.var 5) .nil))))) (.cons (.iff (.or2 (.op .isnot (.call 78 (.cons (.var 2) (.cons (.var 5) .nil))) (.bl false)) (.bor (.op .ne (.var 10) (.op .mul (.lst (.cons (.tup (.cons (.str [114, 101, 102, 117, 115, 101, 100]) (.cons (.str [66, 97, 100, 68, 101, 101, 100]) .nil))) .nil)) (.int 2))))) (.cons (.ret (.bl false)) .nil) .nil) .nil)))) .nil))))))))))) (.cons (.ret (.bl true)) .nil))
def f_law_k05 : FD := ⟨"law", ["_law_script", "_law_dice", "_law_world", "_law_deed", "_law_cases", "_law_bad", "_law_every", "_law_good", "_law_due", "_law_is_good", "_law_made"], ["_law_script"], b_law_k05⟩
/-- 29 -/
def b_are_good_places : SS := (.cons (.iff (.or2 (.not_ (.call 4 (.cons (.var 1) (.cons (.int 4) (.cons (.int 2) .nil))))) (.op .eq (.var 1) (.tup .nil))) (.cons (.ret (.bl false)) .nil) .nil) (.cons (.ret (.bi .all_ (.cons (.lc [2] (.nm 2) (.seq (.var 1)) (.call 2 (.cons (.op .idx (.var 2) (.int 1)) (.cons (.call 10 (.cons (.var 0) .nil)) .nil)))) .nil))) .nil))
def f_are_good_places : FD := ⟨"are_good_places", ["world", "thing", "one"], ["world", "thing"], b_are_good_places⟩
/-- 83 -/
def b_are_places : SS := (.cons (.exp (.call 9 (.cons (.var 0) .nil))) (.cons (.ret (.call 29 (.cons (.var 0) (.cons (.var 1) .nil)))) .nil))
def f_are_places : FD := ⟨"are_places", ["world", "thing"], ["world", "thing"], b_are_places⟩
/-- 30 -/
def b_need_places : SS := (.cons (.iff (.not_ (.call 29 (.cons (.var 0) (.cons (.var 1) .nil)))) (.cons (.raise 4) .nil) .nil) .nil)
def f_need_places : FD := ⟨"need_places", ["world", "thing"], ["world", "thing"], b_need_places⟩
/-- 31 -/
def b_things_of : SS := (.cons (.ret (.lc [1] (.nm 1) (.seq (.var 0)) (.op .idx (.var 1) (.int 0)))) .nil)
def f_things_of : FD := ⟨"things_of", ["places", "one"], ["places"], b_things_of⟩
/-- 84 -/
def b_need_thing : SS := (.cons (.iff (.not_ (.call 2 (.cons (.var 1) (.cons (.call 31 (.cons (.var 0) .nil)) .nil)))) (.cons (.raise 2) .nil) .nil) .nil)
def f_need_thing : FD := ⟨"need_thing", ["places", "thing"], ["places", "thing"], b_need_thing⟩
/-- 32 -/
def b_view_of : SS := (.cons (.setO 3 (.lst .nil)) (.cons (.for_ (.nm 4) (.seq (.call 27 (.cons (.var 0) (.cons (.var 1) .nil)))) (.cons (.app 3 (.tup (.cons (.var 4) (.cons (.bi .tuple (.cons (.lcf [5, 6] (.tp [(.nm 5), (.nm 6)]) (.seq (.var 2)) (.var 5) (.op .eq (.var 6) (.var 4))) .nil)) .nil)))) .nil)) (.cons (.frz 3) (.cons (.ret (.bi .tuple (.cons (.var 3) .nil))) .nil))))
def f_view_of : FD := ⟨"view_of", ["world", "watcher", "places", "found", "box", "thing", "where"], ["world", "watcher", "places"], b_view_of⟩
/-- 33 -/
def b_view : SS := (.cons (.exp (.call 9 (.cons (.var 0) .nil))) (.cons (.exp (.call 13 (.cons (.var 0) (.cons (.var 1) .nil)))) (.cons (.exp (.call 30 (.cons (.var 0) (.cons (.var 2) .nil)))) (.cons (.ret (.call 32 (.cons (.var 0) (.cons (.var 1) (.cons (.var 2) .nil))))) .nil))))
def f_view : FD := ⟨"view", ["world", "watcher", "places"], ["world", "watcher", "places"], b_view⟩
/-- 85 -/
def b_sees_thing : SS := (.cons (.exp (.call 9 (.cons (.var 0) .nil))) (.cons (.exp (.call 13 (.cons (.var 0) (.cons (.var 1) .nil)))) (.cons (.exp (.call 30 (.cons (.var 0) (.cons (.var 2) .nil)))) (.cons (.exp (.call 84 (.cons (.var 2) (.cons (.var 3) .nil)))) (.cons (.ret (.op .in_ (.op .idx (.bi .dict (.cons (.var 2) .nil)) (.var 3)) (.call 27 (.cons (.var 0) (.cons (.var 1) .nil))))) .nil)))))
def f_sees_thing : FD := ⟨"sees_thing", ["world", "watcher", "places", "thing"], ["world", "watcher", "places", "thing"], b_sees_thing⟩
/-- 86 -/
def b_seen_by : SS := (.cons (.exp (.call 9 (.cons (.var 0) .nil))) (.cons (.exp (.call 30 (.cons (.var 0) (.cons (.var 1) .nil)))) (.cons (.exp (.call 84 (.cons (.var 1) (.cons (.var 2) .nil)))) (.cons (.ret (.call 51 (.cons (.var 0) (.cons (.op .idx (.bi .dict (.cons (.var 1) .nil)) (.var 2)) .nil)))) .nil))))
def f_seen_by : FD := ⟨"seen_by", ["world", "places", "thing"], ["world", "places", "thing"], b_seen_by⟩
/-- 87 -/
def b_alike : SS := (.cons (.exp (.call 9 (.cons (.var 0) .nil))) (.cons (.exp (.call 13 (.cons (.var 0) (.cons (.var 1) .nil)))) (.cons (.exp (.call 30 (.cons (.var 0) (.cons (.var 2) .nil)))) (.cons (.exp (.call 30 (.cons (.var 0) (.cons (.var 3) .nil)))) (.cons (.iff (.op .ne (.call 31 (.cons (.var 2) .nil)) (.call 31 (.cons (.var 3) .nil))) (.cons (.raise 4) .nil) .nil) (.cons (.ret (.op .eq (.call 32 (.cons (.var 0) (.cons (.var 1) (.cons (.var 2) .nil)))) (.call 32 (.cons (.var 0) (.cons (.var 1) (.cons (.var 3) .nil)))))) .nil))))))
def f_alike : FD := ⟨"alike", ["world", "watcher", "one", "other"], ["world", "watcher", "one", "other"], b_alike⟩
/-- 88 -/
def b_with_thing : SS := (.cons (.ret (.bi .tuple (.cons (.lc [3, 4] (.tp [(.nm 3), (.nm 4)]) (.seq (.var 0)) (.tup (.cons (.var 3) (.cons (.ife (.op .eq (.var 3) (.var 1)) (.var 2) (.var 4)) .nil)))) .nil))) .nil)
def f_with_thing : FD := ⟨"with_thing", ["places", "thing", "box", "name", "where"], ["places", "thing", "box"], b_with_thing⟩
/-- 89 -/
def b_all_moved : SS := (.cons (.set (.nm 2) (.lst .nil)) (.cons (.for_ (.tp [(.nm 3), (.nm 4)]) (.seq (.var 1)) (.cons (.set (.nm 2) (.op .add (.var 2) (.lcf [5] (.nm 5) (.seq (.call 10 (.cons (.var 0) .nil))) (.call 88 (.cons (.var 1) (.cons (.var 3) (.cons (.var 5) .nil)))) (.op .ne (.var 5) (.var 4))))) .nil)) (.cons (.ret (.bi .sorted (.cons (.var 2) .nil))) .nil)))
def f_all_moved : FD := ⟨"all_moved", ["world", "places", "found", "thing", "where", "box"], ["world", "places"], b_all_moved⟩
/-- 90 -/
def b_moved : SS := (.cons (.exp (.call 9 (.cons (.var 0) .nil))) (.cons (.exp (.call 30 (.cons (.var 0) (.cons (.var 1) .nil)))) (.cons (.ret (.call 89 (.cons (.var 0) (.cons (.var 1) .nil)))) .nil)))
def f_moved : FD := ⟨"moved", ["world", "places"], ["world", "places"], b_moved⟩
/-- 91 -/
def b_law_any_places : SS := (.cons (.set (.nm 3) (.call 55 (.cons (.var 1) .nil))) (.cons (.ret (.bi .tuple (.cons (.lc [4] (.nm 4) (.seq (.var 2)) (.tup (.cons (.var 4) (.cons (.op .idx (.var 3) (.call 40 (.cons (.var 0) (.cons (.bi .len (.cons (.var 3) .nil)) .nil)))) .nil)))) .nil))) .nil))
def f_law_any_places : FD := ⟨"_law_any_places", ["_law_dice", "_law_world", "_law_things", "_law_names_here", "_law_thing"], ["_law_dice", "_law_world", "_law_things"], b_law_any_places⟩
/-- 92 -/
def b_law_no_places : SS := (.cons (.set (.nm 2) (.lst (.cons .non (.cons (.int 5) (.cons (.tup .nil) (.cons (.lst (.cons (.tup (.cons (.str [107, 101, 121]) (.cons (.str [104, 97, 108, 108]) .nil))) .nil)) (.cons (.tup (.cons (.tup (.cons (.str [107, 101, 121]) .nil)) .nil)) (.cons (.tup (.cons (.tup (.cons (.str [75, 101, 121]) (.cons (.str [104, 97, 108, 108]) .nil))) .nil)) .nil)))))))) (.cons (.set (.nm 2) (.op .add (.var 2) (.lst (.cons (.tup (.cons (.tup (.cons (.str [107, 101, 121]) (.cons (.str [97, 116, 116, 105, 99]) .nil))) .nil)) (.cons (.tup (.cons (.tup (.cons (.str [112, 105, 110]) (.cons (.str [104, 97, 108, 108]) .nil))) (.cons (.tup (.cons (.str [107, 101, 121]) (.cons (.str [104, 97, 108, 108]) .nil))) .nil))) .nil))))) (.cons (.for_ (.nm 3) (.seq (.op .add (.var 2) (.lst (.cons (.tup (.cons (.tup (.cons (.str [107, 101, 121]) (.cons (.str [104, 97, 108, 108]) .nil))) (.cons (.tup (.cons (.str [107, 101, 121]) (.cons (.str [104, 97, 108, 108]) .nil))) .nil))) (.cons (.bi .tuple (.cons (.lc [5] (.nm 5) (.seq (.str [97, 98, 99, 100, 101])) (.tup (.cons (.op .add (.str [116]) (.var 5)) (.cons (.str [104, 97, 108, 108]) .nil)))) .nil)) .nil))))) (.cons (.setO 4 (.lst (.cons (.told 43 (.call 33 (.cons (.var 0) (.cons (.str [97, 110, 110]) (.cons (.var 3) .nil))))) .nil))) (.cons (.app 4 (.told 43 (.call 90 (.cons (.var 0) (.cons (.var 3) .nil))))) (.cons (.app 4 (.told 43 (.call 86 (.cons (.var 0) (.cons (.var 3) (.cons .non .nil)))))) (.cons (.app 4 (.told 43 (.call 87 (.cons (.var 0) (.cons (.str [97, 110, 110]) (.cons (.var 3) (.cons .non .nil))))))) (.cons (.app 4 (.told 43 (.call 87 (.cons (.var 0) (.cons (.str [97, 110, 110]) (.cons (.var 1) (.cons (.var 3) .nil))))))) (.cons (.iff (.or2 (.op .isnot (.call 83 (.cons (.var 0) (.cons (.var 3) .nil))) (.bl false)) (.bor (.op .ne (.var 4) (.op .mul (.lst (.cons (.tup (.cons (.str [114, 101, 102, 117, 115, 101, 100]) (.cons (.str [66, 97, 100, 80, 108, 97, 99, 101, 115]) .nil))) .nil)) (.int 5))))) (.cons (.ret (.bl false)) .nil) .nil) .nil))))))) (.cons (.iff (.op .ne (.told 43 (.call 87 (.cons (.var 0) (.cons (.str [97, 110, 110]) (.cons (.var 1) (.cons (.tup (.cons (.tup (.cons (.str [122, 101, 100]) (.cons (.str [104, 97, 108, 108]) .nil))) .nil)) .nil)))))) (.tup (.cons (.str [114, 101, 102, 117, 115, 101, 100]) (.cons (.str [66, 97, 100, 80, 108, 97, 99, 101, 115]) .nil)))) (.cons (.ret (.bl false)) .nil) .nil) (.cons (.for_ (.nm 3) (.seq (.lst (.cons .non (.cons (.int 5) (.cons (.str [122, 101, 100]) (.cons (.str [75, 101, 121]) .nil)))))) (.cons (.setO 4 (.lst (.cons (.told 43 (.call 33 (.cons (.var 0) (.cons (.var 3) (.cons .non .nil))))) .nil))) (.cons (.app 4 (.told 43 (.call 85 (.cons (.var 0) (.cons (.str [97, 110, 110]) (.cons (.var 1) (.cons (.var 3) .nil))))))) (.cons (.app 4 (.told 43 (.call 86 (.cons (.var 0) (.cons (.var 1) (.cons (.var 3) .nil)))))) (.cons (.iff (.bor (.op .ne (.var 4) (.op .mul (.lst (.cons (.tup (.cons (.str [114, 101, 102, 117, 115, 101, 100]) (.cons (.str [66, 97, 100, 78, 97, 109, 101]) .nil))) .nil)) (.int 3)))) (.cons (.ret (.bl false)) .nil) .nil) .nil))))) (.cons (.ret (.bl true)) .nil))))))
def f_law_no_places : FD := ⟨"_law_no_places", ["_law_world", "_law_one", "_law_cases", "_law_bad", "_law_made", "_law_sign"], ["_law_world", "_law_one"], b_law_no_places⟩
/-- 93 -/
def b_law_k06 : SS := (.cons (.for_ (.nm 1) (.seq (.call 41 (.cons (.var 0) (.cons (.int 4) .nil)))) (.cons (.set (.nm 2) (.call 44 (.cons (.var 1) (.cons (.int 4) .nil)))) (.cons (.set (.nm 3) (.slc (.lst (.cons (.str [107, 101, 121]) (.cons (.str [112, 105, 110]) (.cons (.str [114, 105, 110, 103]) .nil)))) .non (.op .add (.int 1) (.call 40 (.cons (.var 1) (.cons (.int 3) .nil)))))) (.cons (.par [6, 7] [(false, (.call 91 (.cons (.var 1) (.cons (.var 2) (.cons (.var 3) .nil))))), (false, (.call 91 (.cons (.var 1) (.cons (.var 2) (.cons (.var 3) .nil)))))]) (.cons (.for_ (.nm 4) (.seq (.call 66 (.cons (.var 2) .nil))) (.cons (.par [5, 11] [(true, (.lst .nil)), (true, (.lst .nil))]) (.cons (.for_ (.nm 8) (.seq (.call 68 (.cons (.var 2) (.cons (.var 4) .nil)))) (.cons (.app 5 (.tup (.cons (.var 8) (.cons (.bi .tuple (.cons (.lcf [9, 10] (.tp [(.nm 9), (.nm 10)]) (.seq (.var 6)) (.var 9) (.op .eq (.var 10) (.var 8))) .nil)) .nil)))) (.cons (.app 11 (.tup (.cons (.var 8) (.cons (.bi .tuple (.cons (.lcf [9, 10] (.tp [(.nm 9), (.nm 10)]) (.seq (.var 7)) (.var 9) (.op .eq (.var 10) (.var 8))) .nil)) .nil)))) .nil))) (.cons (.frz 5) (.cons (.iff (.op .ne (.call 33 (.cons (.var 2) (.cons (.var 4) (.cons (.var 6) .nil)))) (.bi .tuple (.cons (.var 5) .nil))) (.cons (.ret (.bl false)) .nil) .nil) (.cons (.iff (.op .ne (.call 87 (.cons (.var 2) (.cons (.var 4) (.cons (.var 6) (.cons (.var 7) .nil))))) (.bor (.op .eq (.var 5) (.var 11)))) (.cons (.ret (.bl false)) .nil) .nil) (.cons (.for_ (.tp [(.nm 9), (.nm 10)]) (.seq (.var 6)) (.cons (.iff (.op .ne (.call 85 (.cons (.var 2) (.cons (.var 4) (.cons (.var 6) (.cons (.var 9) .nil))))) (.op .in_ (.var 10) (.call 68 (.cons (.var 2) (.cons (.var 4) .nil))))) (.cons (.ret (.bl false)) .nil) .nil) .nil)) .nil))))))) (.cons (.for_ (.tp [(.nm 9), (.nm 10)]) (.seq (.var 6)) (.cons (.iff (.op .ne (.call 86 (.cons (.var 2) (.cons (.var 6) (.cons (.var 9) .nil)))) (.call 52 (.cons (.var 2) (.cons (.var 10) .nil)))) (.cons (.ret (.bl false)) .nil) .nil) .nil)) (.cons (.setO 5 (.lst .nil)) (.cons (.for_ (.tp [(.nm 9), (.nm 10)]) (.seq (.var 6)) (.cons (.for_ (.nm 8) (.seq (.lcf [12] (.nm 12) (.seq (.call 55 (.cons (.var 2) .nil))) (.var 12) (.op .ne (.var 12) (.var 10)))) (.cons (.app 5 (.bi .tuple (.cons (.lc [12, 13] (.tp [(.nm 12), (.nm 13)]) (.seq (.var 6)) (.tup (.cons (.var 12) (.cons (.ife (.op .eq (.var 12) (.var 9)) (.var 8) (.var 13)) .nil)))) .nil))) .nil)) .nil)) (.cons (.frz 5) (.cons (.iff (.or2 (.op .ne (.call 90 (.cons (.var 2) (.cons (.var 6) .nil))) (.bi .sorted (.cons (.var 5) .nil))) (.op .isnot (.call 83 (.cons (.var 2) (.cons (.var 6) .nil))) (.bl true))) (.cons (.ret (.bl false)) .nil) .nil) (.cons (.iff (.not_ (.call 92 (.cons (.var 2) (.cons (.var 6) .nil)))) (.cons (.ret (.bl false)) .nil) .nil) .nil))))))))))) (.cons (.ret (.bl true)) .nil))
def f_law_k06 : FD := ⟨"law", ["_law_script", "_law_dice", "_law_world", "_law_things", "_law_watcher", "_law_due", "_law_one", "_law_other", "_law_box", "_law_thing", "_law_spot", "_law_also", "_law_name", "_law_place"], ["_law_script"], b_law_k06⟩
end Ev
namespace Ev.Mr
/-! ### how the small language runs, by rows -/
section
variable {con : Nat → Option D} {C : CT} {TD : Nat → Nat → Option D} {fu : Nat} {env : EvEnv} {st : HSt} {α : Type}
theorem R.bind_oks {β : Type} (a : α) (s : HSt) (f : α → HSt → R β) : (R.ok a s).bind f = f a s := rfl
theorem op2_add {a b : D} : op2 st .add a b = addD a b := rfl
theorem op2_sub {a b : D} : op2 st .sub a b = subD a b := rfl
theorem op2_mul {a b : D} : op2 st .mul a b = mulD a b := rfl
theorem op2_fdiv {a b : D} : op2 st .fdiv a b = fdivD a b := rfl
theorem op2_mod {a b : D} : op2 st .mod a b = modD a b := rfl
theorem op2_eq {a b : D} : op2 st .eq a b = bD (eqD a b) := rfl
theorem op2_ne {a b : D} : op2 st .ne a b = nD (eqD a b) := rfl
theorem op2_lt {a b : D} : op2 st .lt a b = bD (ltD a b) := rfl
theorem op2_le {a b : D} : op2 st .le a b = bD (leD a b) := rfl
theorem op2_gt {a b : D} : op2 st .gt a b = bD (ltD b a) := rfl
theorem op2_ge {a b : D} : op2 st .ge a b = bD (leD b a) := rfl
theorem op2_is {a b : D} : op2 st .is_ a b = bD (isD a b) := rfl
theorem op2_isnot {a b : D} : op2 st .isnot a b = nD (isD a b) := rfl
theorem op2_in {a b : D} : op2 st .in_ a b = bD (inD st a b) := rfl
theorem op2_notin {a b : D} : op2 st .notin a b = nD (inD st a b) := rfl
theorem op2_idx {a b : D} : op2 st .idx a b = idxD st a b := rfl
theorem bD_some {b : Bool} : bD (some b) = some (.bl b) := rfl
theorem nD_some {b : Bool} : nD (some b) = some (.bl (!b)) := rfl
theorem ltD_int {i j : Int} : ltD (.int i) (.int j) = some (decide (i < j)) := rfl
theorem ltD_str {i j : List Nat} : ltD (.str i) (.str j) = some (ltN i j) := rfl
theorem leD_int {i j : Int} : leD (.int i) (.int j) = some (decide (i ≤ j)) := rfl
theorem bi_len {d : D} : biD st .len [d] = (lenD st d).map fun (n : Nat) => D.int (n : Int) := rfl
theorem bi_all {ds : List D} : biD st .all_ [.lst ds] = bD (allB ds) := rfl
theorem bi_dict {ds : List D} : biD st .dict [.lst ds] = (pairsK ds).map fun ps => .dk (putAll ps ([], [])).1 (putAll ps ([], [])).2 := rfl
theorem bi_dictT {ds : List D} : biD st .dict [.tup ds] = (pairsK ds).map fun ps => .dk (putAll ps ([], [])).1 (putAll ps ([], [])).2 := rfl
theorem bi_sorted {ds : List D} : biD st .sorted [.lst ds] = (allStr ds).bind fun ss => if ss.length < 64 then some (.lst ((sortN ss).map .str)) else none := rfl
theorem bi_tuple {d : D} : biD st .tuple [d] = (seqs st d).map D.tup := rfl
theorem bi_list {d : D} : biD st .list [d] = (seqs st d).map D.lst := rfl
theorem bi_max {i j : Int} : biD st .max2 [.int i, .int j] = some (.int (if j > i then j else i)) := rfl
theorem bi_min {i j : Int} : biD st .min2 [.int i, .int j] = some (.int (if j < i then j else i)) := rfl
theorem len_str {s : List Nat} (h : s.length ≤ 1000) : lenD st (.str s) = some s.length := by
  show (if s.length ≤ line then _ else _) = _
  rw [if_pos (by unfold line; omega)]
theorem len_tup {ds : List D} : lenD st (.tup ds) = some ds.length := rfl
theorem len_lst {ds : List D} : lenD st (.lst ds) = some ds.length := rfl
theorem len_dk {ks : List KY} {ds : List D} : lenD st (.dk ks ds) = some ks.length := rfl
theorem seqI_str {s : List Nat} : seqI (.str s) = some (s.map fun c => .str [c]) := rfl
theorem seqI_tup {s : List D} : seqI (.tup s) = some s := rfl
theorem seqI_lst {s : List D} : seqI (.lst s) = some s := rfl
theorem seqP_tup {s : List D} : seqP (.tup s) = some s := rfl
theorem seqP_lst {s : List D} : seqP (.lst s) = some s := rfl
theorem seqs_tup {s : List D} : seqs st (.tup s) = some s := rfl
theorem seqs_lst {s : List D} : seqs st (.lst s) = some s := rfl
theorem isi_str_str {s : List Nat} : isiD .str (.str s) = some true := rfl
theorem isi_tup_tup {s : List D} : isiD .tuple (.tup s) = some true := rfl
theorem is_non_non : isD .non .non = some true := rfl
theorem is_str_non {s : List Nat} : isD (.str s) .non = some false := rfl
theorem is_lst_non {s : List D} : isD (.lst s) .non = some false := rfl
theorem is_tup_non {s : List D} : isD (.tup s) .non = some false := rfl
theorem idx_tup {ds : List D} {i : Int} : idxD st (.tup ds) (.int i) = (idxN ds.length i).bind fun j => ds[j]? := rfl
theorem idx_lst {ds : List D} {i : Int} : idxD st (.lst ds) (.int i) = (idxN ds.length i).bind fun j => ds[j]? := rfl
theorem idx_dkS {ks : List KY} {ds : List D} {s : List Nat} : idxD st (.dk ks ds) (.str s) = lookK ks ds (.inr s) := rfl
theorem in_str {c : Nat} {s : List Nat} : inD st (.str [c]) (.str s) = some (memN c s) := rfl
theorem obind_some {β γ : Type} {a : β} {f : β → Option γ} : (some a).bind f = f a := rfl
theorem omap_some {β γ : Type} {a : β} {f : β → γ} : (some a).map f = some (f a) := rfl
theorem guardP_true {r : R α} : guardP true r = r := rfl
theorem noExc_ok {a : α} : noExc (.ok a st) = .ok a st := rfl
def andK (x : D) (k : HSt → R D) (st : HSt) : R D := match x with
  | .bl true => k st
  | .bl false => .ok (.bl false) st
  | _ => .bad
def orK (x : D) (k : HSt → R D) (st : HSt) : R D := match x with
  | .bl true => .ok (.bl true) st
  | .bl false => k st
  | _ => .bad
def notK (x : D) (st : HSt) : R D := match x with
  | .bl b => .ok (.bl (!b)) st
  | _ => .bad
def iteK (x : D) (k l : HSt → R D) (st : HSt) : R D := match x with
  | .bl true => k st
  | .bl false => l st
  | _ => .bad
def chnK (x : Option D) (k : HSt → R D) (st : HSt) : R D := match x with
  | some (.bl true) => k st
  | some (.bl false) => .ok (.bl false) st
  | _ => .bad
def iffK (x : D) (k l : HSt → RS) (st : HSt) : RS := match x with
  | .bl true => k st
  | .bl false => l st
  | _ => .bad
theorem andK_bl {b : Bool} {k : HSt → R D} : andK (.bl b) k st = if b = true then k st else .ok (.bl false) st := by cases b <;> rfl
theorem orK_bl {b : Bool} {k : HSt → R D} : orK (.bl b) k st = if b = true then .ok (.bl true) st else k st := by cases b <;> rfl
theorem notK_bl {b : Bool} : notK (.bl b) st = .ok (.bl (!b)) st := rfl
theorem iteK_bl {b : Bool} {k l : HSt → R D} : iteK (.bl b) k l st = if b = true then k st else l st := by cases b <;> rfl
theorem chnK_bl {b : Bool} {k : HSt → R D} : chnK (some (.bl b)) k st = if b = true then k st else .ok (.bl false) st := by cases b <;> rfl
theorem iffK_bl {b : Bool} {k l : HSt → RS} : iffK (.bl b) k l st = if b = true then k st else l st := by cases b <;> rfl
theorem ite_and {b c : Bool} : (if b = true then R.ok (D.bl c) st else .ok (.bl false) st) = .ok (.bl (b && c)) st := by cases b <;> rfl
theorem ite_or {b c : Bool} : (if b = true then R.ok (D.bl true) st else .ok (.bl c) st) = .ok (.bl (b || c)) st := by cases b <;> rfl
def varK (o : Option Sl) (st : HSt) : R D := match o with
  | some (some (false, d)) => .ok d st
  | _ => .bad
theorem evE_var {i : Nat} : evE con C TD env (.var i) st = varK env[i]? st := by simp only [evE]; rfl
theorem varK_some {d : D} : varK (some (some (false, d))) st = .ok d st := rfl
theorem evE_non : evE con C TD env .non st = .ok .non st := by simp only [evE]
theorem evE_bl {b : Bool} : evE con C TD env (.bl b) st = .ok (.bl b) st := by simp only [evE]
theorem evE_int {b : Int} : evE con C TD env (.int b) st = .ok (.int b) st := by simp only [evE]
theorem evE_str {b : List Nat} : evE con C TD env (.str b) st = .ok (.str b) st := by simp only [evE]
theorem evE_glob {b : Nat} : evE con C TD env (.glob b) st = liftO (con b) st := by simp only [evE]
theorem evE_tup {es : IEs} : evE con C TD env (.tup es) st = (evEs con C TD env es st).bind fun ds st => .ok (.tup ds) st := by simp only [evE]
theorem evE_lst {es : IEs} : evE con C TD env (.lst es) st = (evEs con C TD env es st).bind fun ds st => .ok (.lst ds) st := by simp only [evE]
theorem evE_lstH {es : IEs} : evE con C TD env (.lstH es) st = (evEs con C TD env es st).bind fun ds st => .ok (.hnd st.length) (st ++ [.lst ds]) := by simp only [evE]
theorem evE_dct : evE con C TD env (.dct .nil .nil) st = .ok (.dk [] []) st := by simp only [evE]
theorem evE_op {o : OP} {a b : IE} : evE con C TD env (.op o a b) st = (evE con C TD env a st).bind fun x st => (evE con C TD env b st).bind fun y st => liftO (op2 st o x y) st := by simp only [evE]
theorem evE_chn {o o' : OP} {a b c : IE} : evE con C TD env (.chn o o' a b c) st = (evE con C TD env a st).bind fun x st => (evE con C TD env b st).bind fun y st => chnK (op2 st o x y) (fun st => (evE con C TD env c st).bind fun z st => liftO (op2 st o' y z) st) st := by simp only [evE]; rfl
theorem evE_and2 {a b : IE} : evE con C TD env (.and2 a b) st = (evE con C TD env a st).bind fun x st => andK x (evE con C TD env b) st := by simp only [evE]; rfl
theorem evE_or2 {a b : IE} : evE con C TD env (.or2 a b) st = (evE con C TD env a st).bind fun x st => orK x (evE con C TD env b) st := by simp only [evE]; rfl
theorem evE_not {a : IE} : evE con C TD env (.not_ a) st = (evE con C TD env a st).bind fun x st => notK x st := by simp only [evE]; rfl
theorem evE_ife {c a b : IE} : evE con C TD env (.ife c a b) st = (evE con C TD env c st).bind fun x st => iteK x (evE con C TD env a) (evE con C TD env b) st := by simp only [evE]; rfl
theorem evE_call {f : Nat} {es : IEs} : evE con C TD env (.call f es) st = (evEs con C TD env es st).bind fun ds st => C f ds st := by simp only [evE]
theorem evE_bi {f : BI} {es : IEs} : evE con C TD env (.bi f es) st = (evEs con C TD env es st).bind fun ds st => liftO (biD st f ds) st := by simp only [evE]
theorem evE_isi {t : TY} {a : IE} : evE con C TD env (.isi t a) st = (evE con C TD env a st).bind fun x st => liftO (bD (isiD t x)) st := by simp only [evE]
theorem evE_slc {a lo hi : IE} : evE con C TD env (.slc a lo hi) st = (evE con C TD env a st).bind fun x st => (evE con C TD env lo st).bind fun l st => guardP (chkP lo l) ((evE con C TD env hi st).bind fun h st => guardP (chkP hi h) (liftO (slcD st x l h) st)) := by simp only [evE]
def revK (x : D) (st : HSt) : R D := match x with
  | .lst ds => .ok (.lst ds.reverse) st
  | _ => .bad
theorem evE_rev {a : IE} : evE con C TD env (.rev a) st = (evE con C TD env a st).bind fun x st => revK x st := by simp only [evE]; rfl
theorem revK_lst {ds : List D} : revK (.lst ds) st = .ok (.lst ds.reverse) st := rfl
def skeyK (x : D) (st : HSt) : R D := match x with
  | .lst ds => liftO ((sortK ds).map fun l => .lst (l.map (·.2))) st
  | _ => .bad
theorem evE_skey {a : IE} : evE con C TD env (.skey a) st = (evE con C TD env a st).bind fun x st => skeyK x st := by simp only [evE]; rfl
theorem skeyK_lst {ds : List D} : skeyK (.lst ds) st = liftO ((sortK ds).map fun l => .lst (l.map (·.2))) st := rfl
theorem evE_told {f : Nat} {a : IE} : evE con C TD env (.told f a) st = tdR TD f (evE con C TD env a st) := by simp only [evE]
def borK (r : R D) : R D := match r with
  | .ok d st => if flatD d then .ok d st else .bad
  | _ => .bad
theorem evE_bor {a : IE} : evE con C TD env (.bor a) st = borK (evE con C TD (frzE env) a st) := by simp only [evE]; rfl
theorem borK_bl {b : Bool} : borK (.ok (.bl b) st) = .ok (.bl b) st := rfl
theorem borK_int {b : Int} : borK (.ok (.int b) st) = .ok (.int b) st := rfl
theorem frz_nil : frzE [] = [] := rfl
theorem frz_none {r : EvEnv} : frzE (none :: r) = none :: frzE r := rfl
theorem frz_some {o : Bool} {d : D} {r : EvEnv} : frzE (some (o, d) :: r) = some (false, d) :: frzE r := rfl
theorem frz_get : ∀ {env : EvEnv} {i : Nat}, (frzE env)[i]? = (env[i]?).map fun s => s.map fun p => (false, p.2)
  | [], i => by simp [frzE]
  | none :: r, 0 => rfl
  | none :: r, i + 1 => by
    show (frzE r)[i]? = _
    rw [frz_get (env := r)]; rfl
  | some (o, d) :: r, 0 => rfl
  | some (o, d) :: r, i + 1 => by
    show (frzE r)[i]? = _
    rw [frz_get (env := r)]; rfl
def idxOK (o : Option Sl) (k : HSt → R D) (st : HSt) : R D := match o with
  | some (some (true, d)) => (k st).bind fun y st => liftO (idxD st d y) st
  | _ => .bad
theorem evE_idxO {i : Nat} {b : IE} : evE con C TD env (.idxO i b) st = idxOK env[i]? (evE con C TD env b) st := by simp only [evE]; rfl
theorem idxOK_some {d : D} {k : HSt → R D} : idxOK (some (some (true, d))) k st = (k st).bind fun y st => liftO (idxD st d y) st := rfl
theorem evEs_nil : evEs con C TD env .nil st = .ok [] st := by simp only [evEs]
theorem evEs_cons {e : IE} {es : IEs} : evEs con C TD env (.cons e es) st = (evE con C TD env e st).bind fun d st => (evEs con C TD env es st).bind fun ds st => .ok (d :: ds) st := by simp only [evEs]
theorem evI_seq {e : IE} : evI con C TD env (.seq e) st = (evE con C TD env e st).bind fun d st => liftO (seqI d) st := by simp only [evI]
theorem evI_enum {e : IE} : evI con C TD env (.enum e) st = (evE con C TD env e st).bind fun d st => if isTup d then .bad else (liftO (seqP d) st).bind fun ds st => .ok (enumD 0 ds) st := by simp only [evI]
theorem evI_zip {a b : IE} : evI con C TD env (.zip a b) st = (evE con C TD env a st).bind fun d st => (evE con C TD env b st).bind fun d' st => if isTup d == isTup d' then (liftO (seqP d) st).bind fun ds st => (liftO (seqP d') st).bind fun ds' st => .ok (zipD ds ds') st else .bad := by simp only [evI]
def rngK (x : D) (st : HSt) : R (List D) := match x with
  | .int i => if -4611686018427387904 ≤ i ∧ i < 4611686018427387904 then .ok (rangeD i.toNat 0) st else .bad
  | _ => .bad
theorem evI_range {e : IE} : evI con C TD env (.range e) st = (evE con C TD env e st).bind fun x st => rngK x st := by simp only [evI]; rfl
theorem rngK_int {i : Int} (h : -4611686018427387904 ≤ i ∧ i < 4611686018427387904) : rngK (.int i) st = .ok (rangeD i.toNat 0) st := by
  show (if _ then _ else _) = _
  rw [if_pos h]
def ownK (o : Option Sl) (st : HSt) : R (List D) := match o with
  | some (some (true, .lst ds)) => .ok ds st
  | _ => .bad
theorem evI_own {i : Nat} : evI con C TD env (.own i) st = ownK env[i]? st := by simp only [evI]; rfl
theorem ownK_some {ds : List D} : ownK (some (some (true, .lst ds))) st = .ok ds st := rfl
theorem evE_lc {own : List Nat} {t : Tgt} {src : IS} {elt : IE} {ds xs : List D} (h1 : evI con C TD env src st = .ok ds st) (hl : ds.length ≤ 1000) (h2 : evLC (fun e d => bindT e t d) (fun _ st => .ok (.bl true) st) (fun e st => evE con C TD e elt st) (wipeE env own) ds st = .ok xs st) :
    evE con C TD env (.lc own t src elt) st = .ok (.lst xs) st := by
  simp only [evE, h1, R.bind_ok, h2, noExc_ok]
  rw [show Nat.ble ds.length line = true from Nat.ble_eq.mpr (by unfold line; omega)]
  rfl
theorem evE_lcf {own : List Nat} {t : Tgt} {src : IS} {elt cond : IE} {ds xs : List D} (h1 : evI con C TD env src st = .ok ds st) (hl : ds.length ≤ 1000) (h2 : evLC (fun e d => bindT e t d) (fun e st => evE con C TD e cond st) (fun e st => evE con C TD e elt st) (wipeE env own) ds st = .ok xs st) :
    evE con C TD env (.lcf own t src elt cond) st = .ok (.lst xs) st := by
  simp only [evE, h1, R.bind_ok, h2, noExc_ok]
  rw [show Nat.ble ds.length line = true from Nat.ble_eq.mpr (by unfold line; omega)]
  rfl
end
section
variable {con : Nat → Option D} {C : CT} {TD : Nat → Nat → Option D} {fu : Nat} {env : EvEnv} {st : HSt}
def bndK (o : Option EvEnv) (st : HSt) : RS := match o with
  | some env' => .nx env' st
  | none => .bad
theorem bndK_some : bndK (some env) st = .nx env st := rfl
theorem evS_set {t : Tgt} {e : IE} : evS con C TD fu env (.set t e) st = (evE con C TD env e st).bindS fun d st => bndK (bindT env t d) st := by simp only [evS]; rfl
theorem evS_setO {i : Nat} {e : IE} : evS con C TD fu env (.setO i e) st = (evE con C TD env e st).bindS fun d st => if isOwnD d && decide (i < env.length) then .nx (env.set i (some (true, d))) st else .bad := by simp only [evS]
theorem own_lst {ds : List D} : isOwnD (.lst ds) = true := rfl
theorem own_dk {ks : List KY} {ds : List D} : isOwnD (.dk ks ds) = true := rfl
theorem evS_par {ts : List Nat} {es : List (Bool × IE)} : evS con C TD fu env (.par ts es) st = (evPar (fun e st => evE con C TD env e st) es st).bindS fun ds st => bndK (setPar env ts ds) st := by simp only [evS]; rfl
theorem evPar_nil {ev : IE → HSt → R D} : evPar simp_arith [] st = .ok [] st := rfl
theorem evPar_cons {ev : IE → HSt → R D} {o : Bool} {e : IE} {es : List (Bool × IE)} : evPar ev ((o, e) :: es) st = (ev e st).bind fun d st => if o && !isOwnD d then .bad else (evPar ev es st).bind fun ds st => .ok ((o, d) :: ds) st := rfl
theorem setPar_nil : setPar env [] [] = some env := rfl
theorem setPar_cons {t : Nat} {ts : List Nat} {d : Bool × D} {ds : List (Bool × D)} : setPar env (t :: ts) (d :: ds) = if t < env.length then setPar (env.set t (some d)) ts ds else none := rfl
theorem evFor_nil {f : EvEnv → HSt → RS} {t : Tgt} : evFor f t [] env st = .nx env st := rfl
theorem evFor_cons {f : EvEnv → HSt → RS} {t : Tgt} {d : D} {ds : List D} {env' : EvEnv} (h : bindT env t d = some env') : evFor f t (d :: ds) env st = (f env' st).bind fun env st => evFor f t ds env st := by
  show (match bindT env t d with | none => RS.bad | some env' => _) = _
  rw [h]
theorem evFor_inv {f : EvEnv → HSt → RS} {t : Tgt} {P : EvEnv → HSt → Prop} : ∀ {xs : List D}, (∀ x ∈ xs, ∀ env st, P env st → ∃ env1, bindT env t x = some env1 ∧ ∃ env2 st2, f env1 st = .nx env2 st2 ∧ P env2 st2) → ∀ env st, P env st → ∃ env' st', evFor f t xs env st = .nx env' st' ∧ P env' st'
  | [], _, env, st, p => ⟨env, st, rfl, p⟩
  | x :: xs, h, env, st, p => by
    obtain ⟨env1, h1, env2, st2, h2, p2⟩ := h x (by simp) env st p
    obtain ⟨env3, st3, h3, p3⟩ := evFor_inv (xs := xs) (fun y hy => h y (by simp [hy])) env2 st2 p2
    exact ⟨env3, st3, by rw [evFor_cons h1, h2]; exact h3, p3⟩
def appK (o : Option Sl) (env : EvEnv) (i : Nat) (k : HSt → R D) (st : HSt) : RS := match o with
  | some (some (true, .lst ds)) => (k st).bindS fun d st => if ds.length < line then .nx (env.set i (some (true, .lst (ds ++ [d])))) st else .bad
  | _ => .bad
theorem evS_app {i : Nat} {e : IE} : evS con C TD fu env (.app i e) st = appK env[i]? env i (evE con C TD env e) st := by simp only [evS]; rfl
theorem appK_some {ds : List D} {i : Nat} {k : HSt → R D} : appK (some (some (true, .lst ds))) env i k st = (k st).bindS fun d st => if ds.length < line then .nx (env.set i (some (true, .lst (ds ++ [d])))) st else .bad := rfl
def popK (o : Option Sl) (env : EvEnv) (t i : Nat) (st : HSt) : RS := match o with
  | some (some (true, .lst ds)) => (match ds.getLast? with
    | some d => if decide (t < env.length) && !(Nat.beq t i) then .nx ((env.set i (some (true, .lst ds.dropLast))).set t (some (false, d))) st else .bad
    | none => .bad)
  | _ => .bad
theorem evS_pop {t i : Nat} : evS con C TD fu env (.pop t i) st = popK env[i]? env t i st := by simp only [evS]; rfl
def putK (o : Option Sl) (env : EvEnv) (i : Nat) (k : HSt → R D) (v : D) (st : HSt) : RS := match o with
  | some (some (true, d)) => (k st).bindS fun k st => match putO d k v with
    | some d' => .nx (env.set i (some (true, d'))) st
    | none => .bad
  | _ => .bad
theorem evS_put {i : Nat} {k v : IE} : evS con C TD fu env (.put i k v) st = (evE con C TD env v st).bindS fun v st => putK env[i]? env i (evE con C TD env k) v st := by simp only [evS]; rfl
def putHK (o k v : D) (env : EvEnv) (st : HSt) : RS := match o with
  | .hnd n => (match st[n]? with
    | some h => (match putHD h k v with
      | some h' => .nx env (st.set n h')
      | none => .bad)
    | none => .bad)
  | _ => .bad
theorem evS_putH {o k v : IE} : evS con C TD fu env (.putH o k v) st = (evE con C TD env v st).bindS fun v st => (evE con C TD env o st).bindS fun o st => (evE con C TD env k st).bindS fun k st => putHK o k v env st := by simp only [evS]; rfl
theorem evS_exp {e : IE} : evS con C TD fu env (.exp e) st = (evE con C TD env e st).bindS fun _ st => .nx env st := by simp only [evS]
theorem evS_ret {e : IE} : evS con C TD fu env (.ret e) st = (evE con C TD env e st).bindS fun d st => .rt d st := by simp only [evS]
theorem evS_raise {c : Nat} : evS con C TD fu env (.raise c) st = .exc c st := by simp only [evS]
theorem evS_iff {c : IE} {a b : SS} : evS con C TD fu env (.iff c a b) st = (evE con C TD env c st).bindS fun d st => iffK d (evSS con C TD fu env a) (evSS con C TD fu env b) st := by simp only [evS]; rfl
theorem evS_for {t : Tgt} {s : IS} {b : SS} : evS con C TD fu env (.for_ t s b) st = (evI con C TD env s st).bindS fun ds st => evFor (fun env st => evSS con C TD fu env b st) t ds env st := by simp only [evS]
theorem evWhl_succ {c : EvEnv → HSt → R D} {f : EvEnv → HSt → RS} {n : Nat} : evWhl c f (n + 1) env st = (c env st).bindS fun b st => iffK b (fun st => (f env st).bind fun env st => evWhl c f n env st) (fun st => .nx env st) st := by simp only [evWhl]; rfl
theorem evS_whl {c : IE} {b : SS} : evS con C TD fu env (.whl c b) st = evWhl (fun env st => evE con C TD env c st) (fun env st => evSS con C TD fu env b st) fu env st := by simp only [evS]
def frzK (o : Option Sl) (env : EvEnv) (i : Nat) (st : HSt) : RS := match o with
  | some (some (_, d)) => .nx (env.set i (some (false, d))) st
  | _ => .nx env st
theorem evS_frz {i : Nat} : evS con C TD fu env (.frz i) st = frzK env[i]? env i st := by simp only [evS]; rfl
theorem frzK_some {b : Bool} {d : D} {i : Nat} : frzK (some (some (b, d))) env i st = .nx (env.set i (some (false, d))) st := rfl
theorem evSS_nil : evSS con C TD fu env .nil st = .nx env st := by simp only [evSS]
theorem evSS_cons {s : SI} {r : SS} : evSS con C TD fu env (.cons s r) st = (evS con C TD fu env s st).bind fun env st => evSS con C TD fu env r st := by simp only [evSS]
theorem out_nx : (RS.nx env st).out = .ok .non st := rfl
theorem out_rt {d : D} : (RS.rt d st).out = .ok d st := rfl
theorem out_exc {c : Nat} : (RS.exc c st).out = .exc c st := rfl
theorem bindS_exc {α : Type} {c : Nat} {f : α → HSt → RS} : (R.exc c st).bindS f = .exc c st := rfl
end
theorem evE_dc {con : Nat → Option D} {C : CT} {TD : Nat → Nat → Option D} {env : EvEnv} {st : HSt} {own : List Nat} {t : Tgt} {src : IS} {k v : IE} {ds : List D} {d : D} (h1 : evI con C TD env src st = .ok ds st) (hl : ds.length ≤ 1000) (h2 : evDC (fun e d => bindT e t d) (fun e st => evE con C TD e k st) (fun e st => evE con C TD e v st) (wipeE env own) ds ([], []) st = .ok d st) :
    evE con C TD env (.dc own t src k v) st = .ok d st := by
  simp only [evE, h1, R.bind_ok, h2, noExc_ok]
  rw [show Nat.ble ds.length line = true from Nat.ble_eq.mpr (by unfold line; omega)]
  rfl
/-- what a table tells of a def: slots, parameters, body -/
def Is (tab : Nat → Option FD) (f n a : Nat) (b : SS) : Prop := ∃ d, tab f = some d ∧ d.N.length = n ∧ d.ps.length = a ∧ d.body = b
def runB (con : Nat → Option D) (C : CT) (TD : Nat → Nat → Option D) (fu n a : Nat) (b : SS) (ds : List D) (st : HSt) : R D := if Nat.beq ds.length a then (evSS con C TD fu (startE n ds) b st).out else .bad
theorem evC_succ {tab : Nat → Option FD} {con TD fu n f ds st k a b} (h : Is tab f k a b) : evC tab con TD fu (n + 1) f ds st = runB con (evC tab con TD fu n) TD fu k a b ds st := by
  obtain ⟨d, e, rfl, rfl, rfl⟩ := h
  show (match tab f with | some d => _ | none => _) = _
  rw [e]
  rfl
theorem evLC_map {α : Type} {b : EvEnv → D → Option EvEnv} {c e : EvEnv → HSt → R D} {env : EvEnv} {f g : α → D} {st : HSt} : ∀ {xs : List α}, (∀ x ∈ xs, ∃ env', b env (f x) = some env' ∧ c env' st = .ok (.bl true) st ∧ e env' st = .ok (g x) st) → evLC b c e env (xs.map f) st = .ok (xs.map g) st
  | [], _ => rfl
  | x :: xs, h => by
    obtain ⟨env', h1, h2, h3⟩ := h x (by simp)
    have ih := evLC_map (xs := xs) (b := b) (c := c) (e := e) (env := env) (f := f) (g := g) (st := st) (fun y hy => h y (by simp [hy]))
    simp only [List.map_cons, evLC, h1, h2, h3, R.bind_ok, ih]
theorem evLC_filter {α : Type} {b : EvEnv → D → Option EvEnv} {c e : EvEnv → HSt → R D} {env : EvEnv} {p : α → Bool} {f g : α → D} {st : HSt} : ∀ {xs : List α}, (∀ x ∈ xs, ∃ env', b env (f x) = some env' ∧ c env' st = .ok (.bl (p x)) st ∧ (p x = true → e env' st = .ok (g x) st)) → evLC b c e env (xs.map f) st = .ok ((xs.filter p).map g) st
  | [], _ => rfl
  | x :: xs, h => by
    obtain ⟨env', h1, h2, h3⟩ := h x (by simp)
    have ih := evLC_filter (xs := xs) (b := b) (c := c) (e := e) (env := env) (f := f) (g := g) (p := p) (st := st) (fun y hy => h y (by simp [hy]))
    simp only [List.map_cons, evLC, h1, h2, R.bind_ok]
    cases q : p x
    · simp [q, ih]
    · simp [q, h3 q, ih]
theorem allB_map {α : Type} {p : α → Bool} : ∀ {xs : List α}, allB (xs.map fun x => D.bl (p x)) = some (xs.all p)
  | [] => rfl
  | x :: xs => by simp [allB, allB_map (xs := xs)]
theorem allT {α : Type} {l : List α} : (l.all fun _ => true) = true := by simp
local macro_rules | `(tactic| simp_arith [$ts,*]) => `(tactic| simp only [op2_add, op2_sub, op2_mul, op2_fdiv, op2_mod, op2_eq, op2_ne, op2_lt, op2_le, op2_gt, op2_ge, op2_is, op2_isnot, op2_in, op2_notin, op2_idx, bD_some, nD_some, ltD_int, ltD_str, leD_int, bi_len, bi_all, bi_dict, bi_dictT, bi_sorted, bi_tuple, bi_list, bi_max, bi_min, len_tup, len_lst, len_dk, seqI_tup, seqI_lst, seqP_tup, seqP_lst, seqs_tup, seqs_lst, isi_str_str, isi_tup_tup, is_non_non, is_str_non, is_lst_non, is_tup_non, idx_tup, idx_lst, idx_dkS, in_str, obind_some, omap_some, andK_bl, orK_bl, notK_bl, iteK_bl, chnK_bl, iffK_bl, evE_var, varK_some, evE_non, evE_bl, evE_int, evE_str, evE_glob, evE_tup, evE_lst, evE_lstH, evE_dct, evE_op, evE_chn, evE_and2, evE_or2, evE_not, evE_ife, evE_call, evE_bi, evE_isi, evE_slc, evE_rev, revK_lst, evE_skey, skeyK_lst, evE_told, evE_bor, borK_bl, borK_int, frz_nil, frz_none, frz_some, evE_idxO, idxOK_some, evEs_nil, evEs_cons, evI_seq, evI_enum, evI_zip, evI_range, evI_own, ownK_some, bndK_some, evS_set, evS_setO, own_lst, own_dk, evS_par, evPar_nil, evPar_cons, setPar_nil, setPar_cons, evFor_nil, evS_app, appK_some, evS_pop, evS_put, evS_putH, evS_exp, evS_ret, evS_raise, evS_iff, evS_for, evS_whl, evS_frz, frzK_some, evSS_nil, evSS_cons, out_nx, out_rt, out_exc, bindS_exc, R.bind_ok, R.bindS_ok, RS.bind_nx, RS.bind_rt, RS.bind_exc, R.bind_exc, bindS_exc, liftO_some, ite_and, ite_or, List.getElem?_cons_zero, List.getElem?_cons_succ, List.length_map, List.length_cons, List.length_nil, bindT, List.set_cons_zero, List.set_cons_succ, allB_map, allT, if_true, if_false, reduceCtorEq, Nat.reduceAdd, Nat.reduceLT, ↓reduceIte, decide_true, decide_false, Bool.and_true, Bool.true_and, Bool.false_and, Bool.and_false, Bool.or_false, Bool.false_or, Bool.or_true, Bool.true_or, Bool.not_true, Bool.not_false, Bool.false_eq_true, $ts,*])
def small : List Nat := [97, 98, 99, 100, 101, 102, 103, 104, 105, 106, 107, 108, 109, 110, 111, 112, 113, 114, 115, 116, 117, 118, 119, 120, 121, 122]
def isWord (s : List Nat) : Bool := decide ((1 : Int) ≤ s.length) && decide ((s.length : Int) ≤ 8) && s.all fun c => memN c small
section
variable {tab : Nat → Option FD} {con : Nat → Option D} {TD : Nat → Nat → Option D} {fu n : Nat} {st : HSt}
theorem s_is_word {s : List Nat} (h : Is tab 1 2 1 b_is_word) (hc : con 0 = some (.str small)) (hs : s.length ≤ 1000) : evC tab con TD fu (n + 1) 1 [.str s] st = .ok (.bl (isWord s)) st := by
  rw [evC_succ h]
  show (evSS con (evC tab con TD fu n) TD fu [some (false, .str s), none] b_is_word st).out = _
  unfold b_is_word
  have key : evE con (evC tab con TD fu n) TD [some (false, .str s), none] (.lc [1] (.nm 1) (.seq (.var 0)) (.op .in_ (.var 1) (.glob 0))) st = .ok (.lst (s.map fun c => .bl (memN c small))) st := by
    refine evE_lc (ds := s.map fun c => .str [c]) (by simp_arith [seqI_str]) (by simpa using hs) (evLC_map fun c _ => ⟨[some (false, .str s), some (false, .str [c])], by rfl, by rfl, ?_⟩)
    simp_arith [hc]
  simp_arith [len_str hs, key]
  rfl
end
end Ev.Mr
namespace Ev.Mr
local macro_rules | `(tactic| simp_arith [$ts,*]) => `(tactic| simp only [op2_add, op2_sub, op2_mul, op2_fdiv, op2_mod, op2_eq, op2_ne, op2_lt, op2_le, op2_gt, op2_ge, op2_is, op2_isnot, op2_in, op2_notin, op2_idx, bD_some, nD_some, ltD_int, ltD_str, leD_int, bi_len, bi_all, bi_dict, bi_dictT, bi_sorted, bi_tuple, bi_list, bi_max, bi_min, len_tup, len_lst, len_dk, seqI_tup, seqI_lst, seqP_tup, seqP_lst, seqs_tup, seqs_lst, isi_str_str, isi_tup_tup, is_non_non, is_str_non, is_lst_non, is_tup_non, idx_tup, idx_lst, idx_dkS, in_str, obind_some, omap_some, andK_bl, orK_bl, notK_bl, iteK_bl, chnK_bl, iffK_bl, evE_var, varK_some, evE_non, evE_bl, evE_int, evE_str, evE_glob, evE_tup, evE_lst, evE_lstH, evE_dct, evE_op, evE_chn, evE_and2, evE_or2, evE_not, evE_ife, evE_call, evE_bi, evE_isi, evE_slc, evE_rev, revK_lst, evE_skey, skeyK_lst, evE_told, evE_bor, borK_bl, borK_int, frz_nil, frz_none, frz_some, evE_idxO, idxOK_some, evEs_nil, evEs_cons, evI_seq, evI_enum, evI_zip, evI_range, evI_own, ownK_some, bndK_some, evS_set, evS_setO, own_lst, own_dk, evS_par, evPar_nil, evPar_cons, setPar_nil, setPar_cons, evFor_nil, evS_app, appK_some, evS_pop, evS_put, evS_putH, evS_exp, evS_ret, evS_raise, evS_iff, evS_for, evS_whl, evS_frz, frzK_some, evSS_nil, evSS_cons, out_nx, out_rt, out_exc, bindS_exc, R.bind_ok, R.bindS_ok, RS.bind_nx, RS.bind_rt, RS.bind_exc, R.bind_exc, bindS_exc, liftO_some, ite_and, ite_or, List.getElem?_cons_zero, List.getElem?_cons_succ, List.length_map, List.length_cons, List.length_nil, bindT, List.set_cons_zero, List.set_cons_succ, allB_map, allT, if_true, if_false, reduceCtorEq, Nat.reduceAdd, Nat.reduceLT, ↓reduceIte, decide_true, decide_false, Bool.and_true, Bool.true_and, Bool.false_and, Bool.and_false, Bool.or_false, Bool.false_or, Bool.or_true, Bool.true_or, Bool.not_true, Bool.not_false, Bool.false_eq_true, $ts,*])
abbrev Nm := List Nat
/-! ### what stands in lists -/
section
variable {st : HSt} {α β : Type}
theorem anyEq_strs {s : Nm} : ∀ {l : List Nm}, anyEq (.str s) (l.map .str) = l.any (eqN · s)
  | [] => rfl
  | x :: l => by simp [anyEq, beq, anyEq_strs (l := l)]
theorem in_strs {s : Nm} {l : List Nm} : inD st (.str s) (.lst (l.map .str)) = some (l.any (eqN · s)) := by
  show (if flatD (.str s) && (l.map D.str).all flatD then some (anyEq (.str s) (l.map .str)) else _) = _
  rw [if_pos (by simp [flatD]), anyEq_strs]
theorem in_strsT {s : Nm} {l : List Nm} : inD st (.str s) (.tup (l.map .str)) = some (l.any (eqN · s)) := by
  show (if flatD (.str s) && (l.map D.str).all flatD then some (anyEq (.str s) (l.map .str)) else _) = _
  rw [if_pos (by simp [flatD]), anyEq_strs]
theorem in_tup2 {s a b : Nm} : inD st (.str s) (.tup [.str a, .str b]) = some (eqN a s || eqN b s) := by
  have := in_strsT (st := st) (s := s) (l := [a, b])
  simpa using this
theorem zipD_map {f : α → D} {g : β → D} : ∀ {xs : List α} {ys : List β}, zipD (xs.map f) (ys.map g) = (xs.zip ys).map fun p => .tup [f p.1, g p.2]
  | [], _ => by simp [zipD]
  | _ :: _, [] => by simp [zipD]
  | x :: xs, y :: ys => by simp [zipD, zipD_map (xs := xs) (ys := ys)]
theorem eq_strs {a b : Nm} : eqD (.str a) (.str b) = some (eqN a b) := rfl
theorem eq_ints {a b : Int} : eqD (.int a) (.int b) = some (a == b) := rfl
theorem eq_non_str {b : Nm} : eqD .non (.str b) = some false := rfl
theorem slc_tup1 {ds : List D} : slcD st (.tup ds) (.int 1) .non = some (.tup (ds.drop 1)) := by
  show (((cutI ds.length 0 (.int 1)).bind fun i => (cutI ds.length ds.length .non).map fun j => D.tup ((ds.drop i).take (j - i)))) = _
  cases ds with
  | nil => rfl
  | cons d ds =>
    have : min 1 (d :: ds).length = 1 := by simp
    simp [cutI]
end
/-! ### worlds -/
structure Bx where
  nm : Nm
  out : Option Nm
  lid : Nm
  win : Nm
def oD : Option Nm → D
  | none => .non
  | some s => .str s
def Bx.d (b : Bx) : D := .tup [.str b.nm, oD b.out, .str b.lid, .str b.win]
structure Wr where
  bs : List Bx
  ws : List (Nm × Nm)
def wD (p : Nm × Nm) : D := .tup [.str p.1, .str p.2]
def Wr.d (w : Wr) : D := .tup [.tup (w.bs.map Bx.d), .tup (w.ws.map wD)]
def lids : List Nm := [[111, 112, 101, 110], [115, 104, 117, 116]]
def wins : List Nm := [[110, 111, 110, 101], [105, 110], [111, 117, 116], [98, 111, 116, 104]]
def memS (s : Nm) (l : List Nm) : Bool := l.any (eqN · s)
def riseM (l : List Nm) : Bool := (l.zip (l.drop 1)).all fun p => ltN p.1 p.2
/-- rows of a table: texts ahead -/
structure TRow {α : Type} (f : α → D) (nm : α → Nm) (k : Nat) : Prop where
  i0 : ∀ x st, idxD st (f x) (.int 0) = some (.str (nm x))
  tp : ∀ x, isiD .tuple (f x) = some true
  ln : ∀ x st, lenD st (f x) = some k
theorem row_bx : TRow Bx.d Bx.nm 4 := ⟨fun _ _ => rfl, fun _ => rfl, fun _ _ => rfl⟩
theorem row_wD : TRow wD Prod.fst 2 := ⟨fun _ _ => rfl, fun _ => rfl, fun _ _ => rfl⟩
section
variable {tab : Nat → Option FD} {con : Nat → Option D} {TD : Nat → Nat → Option D} {fu n : Nat} {st : HSt}
/-- the world's own defs and texts stand in the table -/
structure TabW (tab : Nat → Option FD) (con : Nat → Option D) : Prop where
  h1 : Is tab 1 2 1 b_is_word
  h2 : Is tab 2 2 2 b_is_one_of
  h3 : Is tab 3 3 1 b_rise
  h4 : Is tab 4 4 3 b_are_tuples
  h5 : Is tab 5 2 1 b_outers
  h6 : Is tab 6 3 2 b_over
  h7 : Is tab 7 5 1 b_are_boxes
  h8 : Is tab 8 4 1 b_is_world
  h9 : Is tab 9 1 1 b_need_world
  h10 : Is tab 10 2 1 b_box_names
  h11 : Is tab 11 2 1 b_watcher_names
  c0 : con 0 = some (.str small)
  c1 : con 1 = some (.tup (lids.map .str))
  c2 : con 2 = some (.tup (wins.map .str))
theorem s_is_one_of (T : TabW tab con) {s : Nm} {W : D} {b : Bool} (h : inD st (.str s) W = some b) : (evC tab con TD fu) (n + 1) 2 [.str s, W] st = .ok (.bl b) st := by
  rw [evC_succ T.h2]
  show (evSS con ((evC tab con TD fu) n) TD fu [some (false, .str s), some (false, W)] b_is_one_of st).out = _
  unfold b_is_one_of
  simp_arith [h]
theorem s_is_one_of_not (T : TabW tab con) {d W : D} (h : isiD .str d = some false) : (evC tab con TD fu) (n + 1) 2 [d, W] st = .ok (.bl false) st := by
  rw [evC_succ T.h2]
  show (evSS con ((evC tab con TD fu) n) TD fu [some (false, d), some (false, W)] b_is_one_of st).out = _
  unfold b_is_one_of
  simp_arith [h]
theorem s_rise {α : Type} {f : α → D} {nm : α → Nm} {k : Nat} (T : TabW tab con) (r : TRow f nm k) {xs : List α} (hl : xs.length ≤ 1000) : (evC tab con TD fu) (n + 1) 3 [.tup (xs.map f)] st = .ok (.bl (riseM (xs.map nm))) st := by
  rw [evC_succ T.h3]
  show (evSS con ((evC tab con TD fu) n) TD fu [some (false, .tup (xs.map f)), none, none] b_rise st).out = _
  unfold b_rise
  have key : evE con ((evC tab con TD fu) n) TD [some (false, .tup (xs.map f)), none, none] (.lc [1, 2] (.tp [(.nm 1), (.nm 2)]) (.zip (.var 0) (.slc (.var 0) (.int 1) .non)) (.op .lt (.op .idx (.var 1) (.int 0)) (.op .idx (.var 2) (.int 0)))) st
      = .ok (.lst ((xs.zip (xs.drop 1)).map fun p => .bl (ltN (nm p.1) (nm p.2)))) st := by
    refine evE_lc (ds := (xs.zip (xs.drop 1)).map fun p => .tup [f p.1, f p.2]) ?_ (by simp; omega) (evLC_map fun p _ => ⟨[some (false, .tup (xs.map f)), some (false, f p.1), some (false, f p.2)], by rfl, by rfl, ?_⟩)
    · simp_arith [chkP, guardP, isNonE, Bool.not_false, slc_tup1, isTup, beq_self_eq_true]
      rw [← List.map_drop, zipD_map]
    · simp_arith [r.i0]
  simp_arith [key]
  rw [riseM, ← List.map_drop, List.zip_map, List.all_map]
  rfl
def rowsM (most : Nat) (ns : List Nm) : Bool := decide (ns.length ≤ most) && (ns.all isWord && riseM ns)
theorem s_are_tuples {α : Type} {f : α → D} {nm : α → Nm} {k most : Nat} (T : TabW tab con) (r : TRow f nm k) {xs : List α} (hl : xs.length ≤ 1000) (hs : ∀ x ∈ xs, (nm x).length ≤ 1000) :
    (evC tab con TD fu) (n + 2) 4 [.tup (xs.map f), .int most, .int k] st = .ok (.bl (rowsM most (xs.map nm))) st := by
  rw [evC_succ T.h4]
  show (evSS con ((evC tab con TD fu) (n + 1)) TD fu [some (false, .tup (xs.map f)), some (false, .int most), some (false, .int k), none] b_are_tuples st).out = _
  unfold b_are_tuples
  have key : evE con ((evC tab con TD fu) (n + 1)) TD [some (false, .tup (xs.map f)), some (false, .int most), some (false, .int k), none] (.lc [3] (.nm 3) (.seq (.var 0)) (.and2 (.isi .tuple (.var 3)) (.and2 (.op .eq (.bi .len (.cons (.var 3) .nil)) (.var 2)) (.call 1 (.cons (.op .idx (.var 3) (.int 0)) .nil))))) st
      = .ok (.lst (xs.map fun x => .bl (isWord (nm x)))) st := by
    refine evE_lc (ds := xs.map f) (by simp_arith []) (by simpa using hl) (evLC_map fun x hx => ⟨[some (false, .tup (xs.map f)), some (false, .int most), some (false, .int k), some (false, f x)], by rfl, by rfl, ?_⟩)
    simp_arith [r.i0, r.tp, r.ln, eq_ints, beq_self_eq_true, s_is_word T.h1 T.c0 (hs x hx)]
  have e1 : (decide ((most : Int) < (xs.length : Nat))) = !(decide (xs.length ≤ most)) := by
    by_cases q : xs.length ≤ most
    · rw [decide_eq_true q, decide_eq_false (by omega)]; rfl
    · rw [decide_eq_false q, decide_eq_true (by omega)]; rfl
  have e2 : (xs.map nm).all isWord = xs.all fun x => isWord (nm x) := by rw [List.all_map]; rfl
  unfold rowsM
  rw [e2, List.length_map]
  have key3 := s_rise (n := n) (st := st) (TD := TD) (fu := fu) T r hl
  cases hq : decide (xs.length ≤ most) with
  | false => simp_arith [e1, hq, Bool.not_true, Bool.or_true, Bool.not_false, Bool.false_and]
  | true =>
    cases hp : xs.all fun x => isWord (nm x) with
    | false => simp_arith [e1, hq, hp, key, Bool.not_true, Bool.or_false, Bool.not_false, Bool.false_and, Bool.and_false]
    | true => simp_arith [e1, hq, hp, key, key3, Bool.not_true, Bool.or_false, Bool.not_false, Bool.true_and]
/-! the dict of outers -/
def outK (bs : List Bx) : List KY := bs.map fun b => .inr b.nm
def outV (bs : List Bx) : List D := bs.map fun b => oD b.out
def outD (bs : List Bx) : D := .dk (outK bs) (outV bs)
def distN : List Nm → Bool
  | [] => true
  | x :: xs => !(memS x xs) && distN xs
theorem eqN_refl (a : Nm) : eqN a a = true := eqN_iff.mpr rfl
theorem eqN_comm (a b : Nm) : eqN a b = eqN b a := by
  rw [Bool.eq_iff_iff, eqN_iff, eqN_iff]; exact eq_comm
theorem memS_iff {s : Nm} {l : List Nm} : memS s l = true ↔ s ∈ l := by
  unfold memS
  rw [List.any_eq_true]
  constructor
  · rintro ⟨x, h1, h2⟩; rw [eqN_iff] at h2; rw [← h2]; exact h1
  · intro h; exact ⟨s, h, eqN_refl s⟩
theorem hasK_outK {s : Nm} : ∀ {bs : List Bx}, hasK (outK bs) (.inr s) = memS s (bs.map Bx.nm)
  | [] => rfl
  | b :: bs => by
    show (eqK (.inr b.nm) (.inr s) || hasK (outK bs) (.inr s)) = _
    rw [hasK_outK (bs := bs)]; rfl
theorem memS_append {s : Nm} {l r : List Nm} : memS s (l ++ r) = (memS s l || memS s r) := by unfold memS; rw [List.any_append]
theorem evDC_out {C : CT} {b : EvEnv → D → Option EvEnv} {k v : EvEnv → HSt → R D} {env : EvEnv} : ∀ {bs pre : List Bx}, (∀ x ∈ bs, ∃ env', b env x.d = some env' ∧ k env' st = .ok (.str x.nm) st ∧ v env' st = .ok (oD x.out) st) → distN (bs.map Bx.nm) = true → (∀ x ∈ bs, memS x.nm (pre.map Bx.nm) = false) →
    evDC b k v env (bs.map Bx.d) (outK pre, outV pre) st = .ok (outD (pre ++ bs)) st
  | [], pre, _, _, _ => by simp [evDC, outD]
  | x :: bs, pre, h, hd, hn => by
    obtain ⟨env', h1, h2, h3⟩ := h x (by simp)
    simp only [List.map_cons, distN, Bool.and_eq_true, Bool.not_eq_true'] at hd
    have ih := evDC_out (C := C) (b := b) (k := k) (v := v) (env := env) (bs := bs) (pre := pre ++ [x]) (fun y hy => h y (by simp [hy])) hd.2 (fun y hy => by
      rw [List.map_append, memS_append, hn y (by simp [hy])]
      show (false || (eqN x.nm y.nm || false)) = false
      cases q : eqN x.nm y.nm with
      | false => rfl
      | true =>
        rw [eqN_iff] at q
        have : memS x.nm (bs.map Bx.nm) = true := memS_iff.mpr (by rw [q]; exact List.mem_map.mpr ⟨y, hy, rfl⟩)
        rw [hd.1] at this; cases this)
    simp only [List.map_cons, evDC, h1, h2, h3, R.bind_ok]
    have hk : keyD (.str x.nm) = some (.inr x.nm) := rfl
    rw [hk]
    have hp : putD (outK pre) (outV pre) (.inr x.nm) (oD x.out) = (outK (pre ++ [x]), outV (pre ++ [x])) := by
      unfold putD
      rw [hasK_outK, hn x (by simp)]
      simp [outK, outV]
    dsimp only
    rw [hp, ih, List.append_assoc]; rfl
theorem s_outers (T : TabW tab con) {bs : List Bx} (hl : bs.length ≤ 1000) (hd : distN (bs.map Bx.nm) = true) : (evC tab con TD fu) (n + 1) 5 [.tup (bs.map Bx.d)] st = .ok (outD bs) st := by
  rw [evC_succ T.h5]
  show (evSS con ((evC tab con TD fu) n) TD fu [some (false, .tup (bs.map Bx.d)), none] b_outers st).out = _
  unfold b_outers
  have key : evE con ((evC tab con TD fu) n) TD [some (false, .tup (bs.map Bx.d)), none] (.dc [1] (.nm 1) (.seq (.var 0)) (.op .idx (.var 1) (.int 0)) (.op .idx (.var 1) (.int 1))) st = .ok (outD bs) st := by
    have h := evDC_out (st := st) (C := fun _ _ _ => .bad) (b := fun e d => bindT e (.nm 1) d) (k := fun e st => evE con ((evC tab con TD fu) n) TD e (.op .idx (.var 1) (.int 0)) st) (v := fun e st => evE con ((evC tab con TD fu) n) TD e (.op .idx (.var 1) (.int 1)) st) (env := wipeE [some (false, .tup (bs.map Bx.d)), none] [1]) (bs := bs) (pre := [])
      (fun x _ => ⟨[some (false, .tup (bs.map Bx.d)), some (false, x.d)], by rfl, by simp_arith []; rfl, by simp_arith []; rfl⟩) hd (fun _ _ => rfl)
    exact evE_dc (by simp_arith []) (by simpa using hl) h
  simp_arith [key]
def outOf : List Bx → Nm → Option (Option Nm)
  | [], _ => none
  | b :: bs, n => if eqN b.nm n then some b.out else outOf bs n
theorem lookK_out {s : Nm} : ∀ {bs : List Bx}, lookK (outK bs) (outV bs) (.inr s) = (outOf bs s).map oD
  | [] => rfl
  | b :: bs => by
    show (if eqK (.inr b.nm) (.inr s) then some (oD b.out) else lookK (outK bs) (outV bs) (.inr s)) = (if eqN b.nm s then some b.out else outOf bs s).map oD
    rw [lookK_out (bs := bs)]
    show (if eqN b.nm s = true then _ else _) = _
    cases eqN b.nm s <;> rfl
theorem idx_out {s : Nm} {bs : List Bx} : idxD st (outD bs) (.str s) = (outOf bs s).map oD := lookK_out
theorem len_out {bs : List Bx} : lenD st (outD bs) = some bs.length := by show some (outK bs).length = _; simp [outK]
def overM (bs : List Bx) : Nat → Nm → List Nm → Option (Option (List Nm))
  | 0, _, _ => none
  | f + 1, n, found => match outOf bs n with
    | none => none
    | some none => some (some found)
    | some (some m) => if memS m found || decide (bs.length < found.length) then some none else overM bs f m (found ++ [m])
def ovE (bs : List Bx) (n : Nm) (found : List Nm) : EvEnv := [some (false, outD bs), some (false, .str n), some (true, .lst (found.map .str))]
theorem isnot_oD {o : Option Nm} : nD (isD (oD o) .non) = some (.bl o.isSome) := by cases o <;> rfl
theorem intlt {a b : Nat} : decide ((a : Int) < (b : Int)) = decide (a < b) := by
  by_cases q : a < b
  · rw [decide_eq_true q, decide_eq_true (by omega)]
  · rw [decide_eq_false q, decide_eq_false (by omega)]
def ovC : IE := .op .isnot (.op .idx (.var 0) (.var 1)) .non
def ovB : SS := .cons (.set (.nm 1) (.op .idx (.var 0) (.var 1))) (.cons (.iff (.or2 (.bor (.op .in_ (.var 1) (.var 2))) (.bor (.op .gt (.bi .len (.cons (.var 2) .nil)) (.bi .len (.cons (.var 0) .nil))))) (.cons (.ret .non) .nil) .nil) (.cons (.app 2 (.var 1)) .nil))
theorem ov_cond {C : CT} {bs : List Bx} {nm : Nm} {found : List Nm} {o : Option Nm} (ho : outOf bs nm = some o) : evE con C TD (ovE bs nm found) ovC st = .ok (.bl o.isSome) st := by
  unfold ovC ovE
  simp_arith [idx_out, ho, isnot_oD]
theorem ov_body {C : CT} {bs : List Bx} {nm m : Nm} {found : List Nm} (hl : bs.length ≤ 1000) (ho : outOf bs nm = some (some m)) : evSS con C TD fu (ovE bs nm found) ovB st = if (memS m found || decide (bs.length < found.length)) = true then .rt .non st else .nx (ovE bs m (found ++ [m])) st := by
  unfold ovB ovE memS
  cases hm : found.any (eqN · m) with
  | true => simp_arith [idx_out, ho, oD, frz_some, frz_nil, in_strs, hm, borK_bl]
  | false =>
    cases hb : decide (bs.length < found.length) with
    | true => simp_arith [idx_out, ho, oD, frz_some, frz_nil, in_strs, hm, borK_bl, len_out, intlt, hb]
    | false =>
      have hlt : found.length < line := by
        have := of_decide_eq_false hb
        unfold line; omega
      simp_arith [idx_out, ho, oD, frz_some, frz_nil, in_strs, hm, borK_bl, len_out, intlt, hb, if_pos hlt, List.map_append, List.map_cons, List.map_nil]
theorem whl_over {C : CT} {bs : List Bx} (hl : bs.length ≤ 1000) : ∀ (k : Nat) (nm : Nm) (found : List Nm) (r : Option (List Nm)), overM bs k nm found = some r → ∃ e,
    evWhl (fun env st => evE con C TD env ovC st) (fun env st => evSS con C TD fu env ovB st) k (ovE bs nm found) st = match r with | some l => .nx (ovE bs e l) st | none => .rt .non st
  | 0, _, _, _, h => by cases h
  | k + 1, nm, found, r, h => by
    unfold overM at h
    rw [evWhl_succ]
    cases ho : outOf bs nm with
    | none => rw [ho] at h; cases h
    | some o =>
      rw [ho] at h
      rw [ov_cond ho]
      cases o with
      | none =>
        cases h
        exact ⟨nm, rfl⟩
      | some m =>
        dsimp only at h
        simp only [R.bindS_ok, iffK_bl, Option.isSome, if_true, ov_body hl ho]
        cases hq : (memS m found || decide (bs.length < found.length)) with
        | true =>
          rw [hq] at h
          cases h
          exact ⟨nm, rfl⟩
        | false =>
          rw [hq] at h
          obtain ⟨e, ih⟩ := whl_over hl k m (found ++ [m]) r h
          exact ⟨e, by rw [← ih]; rfl⟩
def ovD : Option (List Nm) → D
  | some l => .lst (l.map .str)
  | none => .non
theorem s_over (T : TabW tab con) {bs : List Bx} {nm : Nm} {r : Option (List Nm)} (hl : bs.length ≤ 1000) (h : overM bs fu nm [] = some r) : (evC tab con TD fu) (n + 1) 6 [outD bs, .str nm] st = .ok (ovD r) st := by
  rw [evC_succ T.h6]
  show (evSS con ((evC tab con TD fu) n) TD fu [some (false, outD bs), some (false, .str nm), none] b_over st).out = _
  unfold b_over
  obtain ⟨e, key⟩ := whl_over (con := con) (C := (evC tab con TD fu) n) (TD := TD) (fu := fu) (st := st) hl fu nm [] r h
  show (evSS con ((evC tab con TD fu) n) TD fu _ (.cons (.setO 2 (.lst .nil)) (.cons (.whl ovC ovB) (.cons (.frz 2) (.cons (.ret (.var 2)) .nil)))) st).out = _
  rw [evSS_cons, evS_setO]
  simp_arith []
  show ((evSS con ((evC tab con TD fu) n) TD fu (ovE bs nm []) (.cons (.whl ovC ovB) (.cons (.frz 2) (.cons (.ret (.var 2)) .nil))) st)).out = _
  rw [evSS_cons, evS_whl, key]
  cases r with
  | none => rfl
  | some l =>
    dsimp only [RS.bind_nx]
    unfold ovE
    simp_arith []
    rfl

structure GoodB (fu : Nat) (bs : List Bx) : Prop where
  len : bs.length ≤ 1000
  sz : ∀ b ∈ bs, b.nm.length ≤ 1000
  rows : rowsM 6 (bs.map Bx.nm) = true
  ne : bs ≠ []
  okd : okDs (bs.map Bx.d) 59 = true
  lw : ∀ b ∈ bs, memS b.lid lids = true ∧ memS b.win wins = true
  outs : ∀ b ∈ bs, ∀ o, b.out = some o → memS o (bs.map Bx.nm) = true
  one : (bs.filter fun b => b.out.isNone).length = 1
  dist : distN (bs.map Bx.nm) = true
  ov : ∀ b ∈ bs, ∃ l, overM bs fu b.nm [] = some (some l)
theorem eq_unit {bs : List Bx} (ne : bs ≠ []) (ok : okDs (bs.map Bx.d) 59 = true) : eqD (.tup (bs.map Bx.d)) (.tup []) = some false := by
  have e : eqD (.tup (bs.map Bx.d)) (.tup []) = if okD (.tup (bs.map Bx.d)) 60 && okD (.tup []) 60 then some (beq (.tup (bs.map Bx.d)) (.tup [])) else none := rfl
  rw [e, if_pos (by simp only [okD, ok]; rfl)]
  cases bs with
  | nil => exact absurd rfl ne
  | cons b bs => rfl
theorem is_oD {o : Option Nm} : bD (isD (oD o) .non) = some (.bl o.isNone) := by cases o <;> rfl
theorem idxB0 {b : Bx} : idxD st b.d (.int 0) = some (.str b.nm) := rfl
theorem idxB1 {b : Bx} : idxD st b.d (.int 1) = some (oD b.out) := rfl
theorem idxB2 {b : Bx} : idxD st b.d (.int 2) = some (.str b.lid) := rfl
theorem idxB3 {b : Bx} : idxD st b.d (.int 3) = some (.str b.win) := rfl
theorem isnot_ovD {o : Option (List Nm)} : nD (isD (ovD o) .non) = some (.bl o.isSome) := by cases o <;> rfl
theorem s_are_boxes (T : TabW tab con) {bs : List Bx} (g : GoodB fu bs) : (evC tab con TD fu) (n + 3) 7 [.tup (bs.map Bx.d)] st = .ok (.bl true) st := by
  rw [evC_succ T.h7]
  show (evSS con ((evC tab con TD fu) (n + 2)) TD fu [some (false, .tup (bs.map Bx.d)), none, none, none, none] b_are_boxes st).out = _
  unfold b_are_boxes
  have q4 := s_are_tuples (n := n) (TD := TD) (fu := fu) (st := st) (most := 6) T row_bx g.len g.sz
  rw [g.rows] at q4
  have q4 : (evC tab con TD fu) (n + 2) 4 [.tup (bs.map Bx.d), .int 6, .int 4] st = .ok (.bl true) st := q4
  have qe := eq_unit g.ne g.okd
  have k1 : evE con ((evC tab con TD fu) (n + 2)) TD [some (false, .tup (bs.map Bx.d)), none, none, none, none] (.lc [3] (.nm 3) (.seq (.var 0)) (.op .idx (.var 3) (.int 0))) st = .ok (.lst ((bs.map Bx.nm).map .str)) st := by
    rw [List.map_map]
    refine evE_lc (ds := bs.map Bx.d) (by simp_arith []) (by simpa using g.len) (evLC_map fun b hb => ⟨[some (false, .tup (bs.map Bx.d)), none, none, some (false, b.d), none], by rfl, by rfl, ?_⟩)
    simp_arith [idxB0]; rfl
  have k2 : evE con ((evC tab con TD fu) (n + 2)) TD [some (false, .tup (bs.map Bx.d)), some (true, .lst ((bs.map Bx.nm).map .str)), none, none, none] (.lc [3] (.nm 3) (.seq (.var 0)) (.and2 (.call 2 (.cons (.op .idx (.var 3) (.int 2)) (.cons (.glob 1) .nil))) (.call 2 (.cons (.op .idx (.var 3) (.int 3)) (.cons (.glob 2) .nil))))) st = .ok (.lst (bs.map fun b => .bl true)) st := by
    refine evE_lc (ds := bs.map Bx.d) (by simp_arith []) (by simpa using g.len) (evLC_map fun b hb => ⟨[some (false, .tup (bs.map Bx.d)), some (true, .lst ((bs.map Bx.nm).map .str)), none, some (false, b.d), none], by rfl, by rfl, ?_⟩)
    obtain ⟨h1, h2⟩ := g.lw b hb
    simp_arith [idxB2, idxB3, T.c1, T.c2, s_is_one_of T (in_strsT.trans (congrArg some h1)), s_is_one_of T (in_strsT.trans (congrArg some h2))]
  have k3 : evE con ((evC tab con TD fu) (n + 2)) TD [some (false, .tup (bs.map Bx.d)), some (false, .lst ((bs.map Bx.nm).map .str)), none, none, none] (.lc [3] (.nm 3) (.seq (.var 0)) (.or2 (.op .is_ (.op .idx (.var 3) (.int 1)) .non) (.call 2 (.cons (.op .idx (.var 3) (.int 1)) (.cons (.var 1) .nil))))) st = .ok (.lst (bs.map fun b => .bl true)) st := by
    refine evE_lc (ds := bs.map Bx.d) (by simp_arith []) (by simpa using g.len) (evLC_map fun b hb => ⟨[some (false, .tup (bs.map Bx.d)), some (false, .lst ((bs.map Bx.nm).map .str)), none, some (false, b.d), none], by rfl, by rfl, ?_⟩)
    cases ho : b.out with
    | none => simp_arith [idxB1, ho, is_oD, Option.isNone]
    | some o => simp_arith [idxB1, ho, is_oD, Option.isNone, oD, s_is_one_of T (in_strs.trans (congrArg some (g.outs b hb o ho)))]
  have k4 : evE con ((evC tab con TD fu) (n + 2)) TD [some (false, .tup (bs.map Bx.d)), some (false, .lst ((bs.map Bx.nm).map .str)), none, none, none] (.lcf [3] (.nm 3) (.seq (.var 0)) (.var 3) (.op .is_ (.op .idx (.var 3) (.int 1)) .non)) st = .ok (.lst ((bs.filter fun b => b.out.isNone).map Bx.d)) st := by
    refine evE_lcf (ds := bs.map Bx.d) (by simp_arith []) (by simpa using g.len) (evLC_filter fun b hb => ⟨[some (false, .tup (bs.map Bx.d)), some (false, .lst ((bs.map Bx.nm).map .str)), none, some (false, b.d), none], by rfl, ?_, fun _ => ?_⟩)
    · simp_arith [idxB1, is_oD]
    · simp_arith []
  have k5 := s_outers (n := n + 1) (TD := TD) (fu := fu) (st := st) T g.len g.dist
  have k6 : evE con ((evC tab con TD fu) (n + 2)) TD [some (false, .tup (bs.map Bx.d)), some (false, .lst ((bs.map Bx.nm).map .str)), some (false, outD bs), none, none] (.lc [4] (.nm 4) (.seq (.var 1)) (.op .isnot (.call 6 (.cons (.var 2) (.cons (.var 4) .nil))) .non)) st = .ok (.lst (bs.map fun b => .bl true)) st := by
    rw [List.map_map]
    refine evE_lc (ds := bs.map (D.str ∘ Bx.nm)) (by simp_arith []) (by simpa using g.len) (evLC_map fun b hb => ⟨[some (false, .tup (bs.map Bx.d)), some (false, .lst (bs.map (D.str ∘ Bx.nm))), some (false, outD bs), none, some (false, .str b.nm)], by rfl, by rfl, ?_⟩)
    obtain ⟨l, hl⟩ := g.ov b hb
    simp_arith [s_over T g.len hl, isnot_ovD, Option.isSome]
  have one : ((((bs.filter fun b => b.out.isNone).length : Nat) : Int) == 1) = true := by rw [g.one]; rfl
  simp_arith [q4, qe, k1, k2, k3, k4, k5, k6, eq_ints, one]
structure GoodW (fu : Nat) (w : Wr) : Prop extends GoodB fu w.bs where
  wlen : w.ws.length ≤ 1000
  wsz : ∀ p ∈ w.ws, p.1.length ≤ 1000
  wrows : rowsM 4 (w.ws.map Prod.fst) = true
  wpl : ∀ p ∈ w.ws, memS p.2 (w.bs.map Bx.nm) = true
theorem idxW0 {w : Wr} : idxD st w.d (.int 0) = some (.tup (w.bs.map Bx.d)) := rfl
theorem idxW1 {w : Wr} : idxD st w.d (.int 1) = some (.tup (w.ws.map wD)) := rfl
theorem idxP0 {p : Nm × Nm} : idxD st (wD p) (.int 0) = some (.str p.1) := rfl
theorem idxP1 {p : Nm × Nm} : idxD st (wD p) (.int 1) = some (.str p.2) := rfl
theorem isi_W {w : Wr} : isiD .tuple w.d = some true := rfl
theorem len_W {w : Wr} : lenD st w.d = some 2 := rfl
theorem s_is_world (T : TabW tab con) {w : Wr} (g : GoodW fu w) : (evC tab con TD fu) (n + 4) 8 [w.d] st = .ok (.bl true) st := by
  rw [evC_succ T.h8]
  show (evSS con ((evC tab con TD fu) (n + 3)) TD fu [some (false, w.d), none, none, none] b_is_world st).out = _
  unfold b_is_world
  have q7 := s_are_boxes (n := n) (TD := TD) (st := st) T g.toGoodB
  have q4 := s_are_tuples (n := n + 1) (TD := TD) (fu := fu) (st := st) (most := 4) T row_wD g.wlen g.wsz
  rw [g.wrows] at q4
  have q4 : (evC tab con TD fu) (n + 3) 4 [.tup (w.ws.map wD), .int 4, .int 2] st = .ok (.bl true) st := q4
  have k1 : evE con ((evC tab con TD fu) (n + 3)) TD [some (false, w.d), none, none, none] (.lc [2] (.nm 2) (.seq (.op .idx (.var 0) (.int 0))) (.op .idx (.var 2) (.int 0))) st = .ok (.lst ((w.bs.map Bx.nm).map .str)) st := by
    rw [List.map_map]
    refine evE_lc (ds := w.bs.map Bx.d) (by simp_arith [idxW0]) (by simpa using g.len) (evLC_map fun b hb => ⟨[some (false, w.d), none, some (false, b.d), none], by rfl, by rfl, ?_⟩)
    simp_arith [idxB0]; rfl
  have k2 : evE con ((evC tab con TD fu) (n + 3)) TD [some (false, w.d), some (false, .lst ((w.bs.map Bx.nm).map .str)), none, none] (.lc [3] (.nm 3) (.seq (.op .idx (.var 0) (.int 1))) (.call 2 (.cons (.op .idx (.var 3) (.int 1)) (.cons (.var 1) .nil)))) st = .ok (.lst (w.ws.map fun b => .bl true)) st := by
    refine evE_lc (ds := w.ws.map wD) (by simp_arith [idxW1]) (by simpa using g.wlen) (evLC_map fun p hp => ⟨[some (false, w.d), some (false, .lst ((w.bs.map Bx.nm).map .str)), none, some (false, wD p)], by rfl, by rfl, ?_⟩)
    simp_arith [idxP1, s_is_one_of T (in_strs.trans (congrArg some (g.wpl p hp)))]
  have e2 : ((((2 : Nat) : Int)) == 2) = true := rfl
  simp_arith [isi_W, len_W, idxW0, idxW1, eq_ints, e2, q7, q4, k1, k2]
theorem s_need_world (T : TabW tab con) {w : Wr} (g : GoodW fu w) : (evC tab con TD fu) (n + 5) 9 [w.d] st = .ok .non st := by
  rw [evC_succ T.h9]
  show (evSS con ((evC tab con TD fu) (n + 4)) TD fu [some (false, w.d)] b_need_world st).out = _
  unfold b_need_world
  simp_arith [s_is_world T g]
def Wr.ns (w : Wr) : List Nm := w.bs.map Bx.nm
theorem s_box_names (T : TabW tab con) {w : Wr} (hl : w.bs.length ≤ 1000) : (evC tab con TD fu) (n + 1) 10 [w.d] st = .ok (.lst (w.ns.map .str)) st := by
  rw [evC_succ T.h10]
  show (evSS con ((evC tab con TD fu) n) TD fu [some (false, w.d), none] b_box_names st).out = _
  unfold b_box_names
  have k1 : evE con ((evC tab con TD fu) n) TD [some (false, w.d), none] (.lc [1] (.nm 1) (.seq (.op .idx (.var 0) (.int 0))) (.op .idx (.var 1) (.int 0))) st = .ok (.lst (w.ns.map .str)) st := by
    unfold Wr.ns
    rw [List.map_map]
    refine evE_lc (ds := w.bs.map Bx.d) (by simp_arith [idxW0]) (by simpa using hl) (evLC_map fun b hb => ⟨[some (false, w.d), some (false, b.d)], by rfl, by rfl, ?_⟩)
    simp_arith [idxB0]; rfl
  simp_arith [k1]
theorem s_watcher_names (T : TabW tab con) {w : Wr} (hl : w.ws.length ≤ 1000) : (evC tab con TD fu) (n + 1) 11 [w.d] st = .ok (.lst ((w.ws.map Prod.fst).map .str)) st := by
  rw [evC_succ T.h11]
  show (evSS con ((evC tab con TD fu) n) TD fu [some (false, w.d), none] b_watcher_names st).out = _
  unfold b_watcher_names
  have k1 : evE con ((evC tab con TD fu) n) TD [some (false, w.d), none] (.lc [1] (.nm 1) (.seq (.op .idx (.var 0) (.int 1))) (.op .idx (.var 1) (.int 0))) st = .ok (.lst ((w.ws.map Prod.fst).map .str)) st := by
    rw [List.map_map]
    refine evE_lc (ds := w.ws.map wD) (by simp_arith [idxW1]) (by simpa using hl) (evLC_map fun b hb => ⟨[some (false, w.d), some (false, wD b)], by rfl, by rfl, ?_⟩)
    simp_arith [idxP0]; rfl
  simp_arith [k1]
theorem s_need_box (T : TabW tab con) (h : Is tab 12 2 2 b_need_box) {w : Wr} (hl : w.bs.length ≤ 1000) {s : Nm} : (evC tab con TD fu) (n + 2) 12 [w.d, .str s] st = if memS s w.ns = true then .ok .non st else .exc 2 st := by
  rw [evC_succ h]
  show (evSS con ((evC tab con TD fu) (n + 1)) TD fu [some (false, w.d), some (false, .str s)] b_need_box st).out = _
  unfold b_need_box
  simp_arith [s_box_names T hl, s_is_one_of T in_strs]
  show RS.out (RS.bind (if (!memS s w.ns) = true then _ else _) _) = _
  cases memS s w.ns <;> simp_arith []
theorem s_need_box_not (T : TabW tab con) (h : Is tab 12 2 2 b_need_box) {w : Wr} (hl : w.bs.length ≤ 1000) {d : D} (hd : isiD .str d = some false) : (evC tab con TD fu) (n + 2) 12 [w.d, d] st = .exc 2 st := by
  rw [evC_succ h]
  show (evSS con ((evC tab con TD fu) (n + 1)) TD fu [some (false, w.d), some (false, d)] b_need_box st).out = _
  unfold b_need_box
  simp_arith [s_box_names T hl, s_is_one_of_not T hd]
/-- the row of a name -/
def rowOf (bs : List Bx) (s : Nm) : Option Bx := (bs.filter fun b => eqN b.nm s)[0]?
theorem s_row_of (T : TabW tab con) (h : Is tab 14 3 2 b_row_of) {w : Wr} (hl : w.bs.length ≤ 1000) {s : Nm} {b : Bx} (hb : rowOf w.bs s = some b) : (evC tab con TD fu) (n + 1) 14 [w.d, .str s] st = .ok b.d st := by
  rw [evC_succ h]
  show (evSS con ((evC tab con TD fu) n) TD fu [some (false, w.d), some (false, .str s), none] b_row_of st).out = _
  unfold b_row_of
  have k1 : evE con ((evC tab con TD fu) n) TD [some (false, w.d), some (false, .str s), none] (.lcf [2] (.nm 2) (.seq (.op .idx (.var 0) (.int 0))) (.var 2) (.op .eq (.op .idx (.var 2) (.int 0)) (.var 1))) st = .ok (.lst ((w.bs.filter fun b => eqN b.nm s).map Bx.d)) st := by
    refine evE_lcf (ds := w.bs.map Bx.d) (by simp_arith [idxW0]) (by simpa using hl) (evLC_filter fun b hb => ⟨[some (false, w.d), some (false, .str s), some (false, b.d)], by rfl, ?_, fun _ => ?_⟩)
    · simp_arith [idxB0, eq_strs]
    · simp_arith []
  have e : idxD st (.lst ((w.bs.filter fun b => eqN b.nm s).map Bx.d)) (.int 0) = some b.d := by
    unfold rowOf at hb
    obtain ⟨h0, _⟩ := List.getElem?_eq_some_iff.mp hb
    show (idxN ((w.bs.filter fun b => eqN b.nm s).map Bx.d).length 0).bind (fun j => ((w.bs.filter fun b => eqN b.nm s).map Bx.d)[j]?) = _
    unfold idxN
    rw [if_pos (by omega), if_pos (by rw [List.length_map]; omega)]
    show ((w.bs.filter fun b => eqN b.nm s).map Bx.d)[0]? = _
    rw [List.getElem?_map, hb]; rfl
  simp only [idx_lst, List.length_map] at e
  simp_arith [k1, e]
def chainM (fu : Nat) (bs : List Bx) (s : Nm) : List Nm := match overM bs fu s [] with
  | some (some l) => l
  | _ => []
theorem GoodB.chain {bs : List Bx} (g : GoodB fu bs) {s : Nm} (hs : memS s (bs.map Bx.nm) = true) : overM bs fu s [] = some (some (chainM fu bs s)) := by
  obtain ⟨b, hb, rfl⟩ := List.mem_map.mp (memS_iff.mp hs)
  obtain ⟨l, hl⟩ := g.ov b hb
  unfold chainM
  rw [hl]
def withinM (fu : Nat) (w : Wr) (s : Nm) : List Nm := w.ns.filter fun x => memS s (chainM fu w.bs x)
theorem s_within (T : TabW tab con) (h : Is tab 16 4 2 b_within) {w : Wr} (g : GoodB fu w.bs) {s : Nm} : (evC tab con TD fu) (n + 2) 16 [w.d, .str s] st = .ok (.lst ((withinM fu w s).map .str)) st := by
  rw [evC_succ h]
  show (evSS con ((evC tab con TD fu) (n + 1)) TD fu [some (false, w.d), some (false, .str s), none, none] b_within st).out = _
  unfold b_within
  have k1 : evE con ((evC tab con TD fu) (n + 1)) TD [some (false, w.d), some (false, .str s), some (false, outD w.bs), none] (.lcf [3] (.nm 3) (.seq (.call 10 (.cons (.var 0) .nil))) (.var 3) (.op .in_ (.var 1) (.call 6 (.cons (.var 2) (.cons (.var 3) .nil))))) st = .ok (.lst ((withinM fu w s).map .str)) st := by
    refine evE_lcf (ds := w.ns.map .str) (by simp_arith [s_box_names T g.len]) (by simpa [Wr.ns] using g.len) (evLC_filter fun x hx => ⟨[some (false, w.d), some (false, .str s), some (false, outD w.bs), some (false, .str x)], by rfl, ?_, fun _ => ?_⟩)
    · have := s_over (n := n) (TD := TD) (con := con) (st := st) T g.len (g.chain (memS_iff.mpr hx))
      simp_arith [this, ovD, in_strs]
      rfl
    · simp_arith []
  simp_arith [idxW0, s_outers T g.len g.dist, k1]
theorem s_inside (T : TabW tab con) (h12 : Is tab 12 2 2 b_need_box) (h16 : Is tab 16 4 2 b_within) (h : Is tab 17 2 2 b_inside) {w : Wr} (g : GoodW fu w) {s : Nm} (hs : memS s w.ns = true) : (evC tab con TD fu) (n + 6) 17 [w.d, .str s] st = .ok (.lst ((withinM fu w s).map .str)) st := by
  rw [evC_succ h]
  show (evSS con ((evC tab con TD fu) (n + 5)) TD fu [some (false, w.d), some (false, .str s)] b_inside st).out = _
  unfold b_inside
  simp_arith [s_need_world T g, s_need_box T h12 g.len, hs, s_within T h16 g.toGoodB]
theorem s_depth (T : TabW tab con) (h12 : Is tab 12 2 2 b_need_box) (h : Is tab 49 2 2 b_depth) {w : Wr} (g : GoodW fu w) {s : Nm} (hs : memS s w.ns = true) : (evC tab con TD fu) (n + 6) 49 [w.d, .str s] st = .ok (.int (chainM fu w.bs s).length) st := by
  rw [evC_succ h]
  show (evSS con ((evC tab con TD fu) (n + 5)) TD fu [some (false, w.d), some (false, .str s)] b_depth st).out = _
  unfold b_depth
  simp_arith [s_need_world T g, s_need_box T h12 g.len, hs, idxW0, s_outers T g.len g.dist, s_over T g.len (g.chain hs), ovD]
def opn (b : Bx) : Bool := eqN b.lid [111, 112, 101, 110]
def inB (b : Bx) : Bool := opn b || (eqN [105, 110] b.win || eqN [98, 111, 116, 104] b.win)
def outB (b : Bx) : Bool := opn b || (eqN [111, 117, 116] b.win || eqN [98, 111, 116, 104] b.win)
def eqO (o : Option Nm) (s : Nm) : Bool := match o with
  | some x => eqN x s
  | none => false
theorem eq_oD {o : Option Nm} {s : Nm} : eqD (oD o) (.str s) = some (eqO o s) := by cases o <;> rfl
def letsM (a b : Bx) : Bool := if eqO b.out a.nm then inB b else outB a
def nextM (a b : Bx) : Bool := eqO a.out b.nm || eqO b.out a.nm
theorem s_lets (T : TabW tab con) (h14 : Is tab 14 3 2 b_row_of) (h : Is tab 18 4 3 b_lets_sight) {w : Wr} (hl : w.bs.length ≤ 1000) {s t : Nm} {a b : Bx} (ha : rowOf w.bs s = some a) (hb : rowOf w.bs t = some b) (es : a.nm = s) : (evC tab con TD fu) (n + 2) 18 [w.d, .str s, .str t] st = .ok (.bl (letsM a b)) st := by
  rw [evC_succ h]
  show (evSS con ((evC tab con TD fu) (n + 1)) TD fu [some (false, w.d), some (false, .str s), some (false, .str t), none] b_lets_sight st).out = _
  unfold b_lets_sight letsM
  subst es
  cases q : eqO b.out a.nm with
  | true => simp_arith [s_row_of T h14 hl ha, s_row_of T h14 hl hb, idxB1, idxB2, idxB3, eq_oD, q, eq_strs, in_tup2]; rfl
  | false => simp_arith [s_row_of T h14 hl ha, s_row_of T h14 hl hb, idxB1, idxB2, idxB3, eq_oD, q, eq_strs, in_tup2]; rfl
theorem s_next (T : TabW tab con) (h14 : Is tab 14 3 2 b_row_of) (h : Is tab 19 3 3 b_are_next) {w : Wr} (hl : w.bs.length ≤ 1000) {s t : Nm} {a b : Bx} (ha : rowOf w.bs s = some a) (hb : rowOf w.bs t = some b) (es : a.nm = s) (et : b.nm = t) : (evC tab con TD fu) (n + 2) 19 [w.d, .str s, .str t] st = .ok (.bl (nextM a b)) st := by
  rw [evC_succ h]
  show (evSS con ((evC tab con TD fu) (n + 1)) TD fu [some (false, w.d), some (false, .str s), some (false, .str t)] b_are_next st).out = _
  unfold b_are_next nextM
  subst es et
  simp_arith [s_row_of T h14 hl ha, s_row_of T h14 hl hb, idxB1, eq_oD]
theorem rowOf_mem {bs : List Bx} {s : Nm} (h : memS s (bs.map Bx.nm) = true) : ∃ b, rowOf bs s = some b ∧ b.nm = s ∧ b ∈ bs := by
  obtain ⟨b, hb, rfl⟩ := List.mem_map.mp (memS_iff.mp h)
  unfold rowOf
  cases q : bs.filter fun x => eqN x.nm b.nm with
  | nil =>
    have : b ∈ bs.filter fun x => eqN x.nm b.nm := List.mem_filter.mpr ⟨hb, eqN_refl _⟩
    rw [q] at this; cases this
  | cons c r =>
    have : c ∈ bs.filter fun x => eqN x.nm b.nm := by rw [q]; simp
    obtain ⟨h1, h2⟩ := List.mem_filter.mp this
    exact ⟨c, rfl, eqN_iff.mp h2, h1⟩
theorem s_is_clear (T : TabW tab con) (h12 : Is tab 12 2 2 b_need_box) (h14 : Is tab 14 3 2 b_row_of) (h18 : Is tab 18 4 3 b_lets_sight) (h19 : Is tab 19 3 3 b_are_next) (h : Is tab 50 3 3 b_is_clear) {w : Wr} (g : GoodW fu w) {s t : Nm} {a b : Bx} (ha : rowOf w.bs s = some a) (hb : rowOf w.bs t = some b) (es : a.nm = s) (et : b.nm = t) (hs : memS s w.ns = true) (ht : memS t w.ns = true) :
    (evC tab con TD fu) (n + 6) 50 [w.d, .str s, .str t] st = if nextM a b = true then .ok (.bl (letsM a b)) st else .exc 9 st := by
  rw [evC_succ h]
  show (evSS con ((evC tab con TD fu) (n + 5)) TD fu [some (false, w.d), some (false, .str s), some (false, .str t)] b_is_clear st).out = _
  unfold b_is_clear
  cases q : nextM a b with
  | true => simp_arith [s_need_world T g, s_need_box T h12 g.len, hs, ht, s_next T h14 h19 g.len ha hb es et, q, s_lets T h14 h18 g.len ha hb es]
  | false => simp_arith [s_need_world T g, s_need_box T h12 g.len, hs, ht, s_next T h14 h19 g.len ha hb es et, q]
end
end Ev.Mr
namespace Ev.Mr
local macro_rules | `(tactic| simp_arith [$ts,*]) => `(tactic| simp only [op2_add, op2_sub, op2_mul, op2_fdiv, op2_mod, op2_eq, op2_ne, op2_lt, op2_le, op2_gt, op2_ge, op2_is, op2_isnot, op2_in, op2_notin, op2_idx, bD_some, nD_some, ltD_int, ltD_str, leD_int, bi_len, bi_all, bi_dict, bi_dictT, bi_sorted, bi_tuple, bi_list, bi_max, bi_min, len_tup, len_lst, len_dk, seqI_tup, seqI_lst, seqP_tup, seqP_lst, seqs_tup, seqs_lst, isi_str_str, isi_tup_tup, is_non_non, is_str_non, is_lst_non, is_tup_non, idx_tup, idx_lst, idx_dkS, in_str, obind_some, omap_some, andK_bl, orK_bl, notK_bl, iteK_bl, chnK_bl, iffK_bl, evE_var, varK_some, evE_non, evE_bl, evE_int, evE_str, evE_glob, evE_tup, evE_lst, evE_lstH, evE_dct, evE_op, evE_chn, evE_and2, evE_or2, evE_not, evE_ife, evE_call, evE_bi, evE_isi, evE_slc, evE_rev, revK_lst, evE_skey, skeyK_lst, evE_told, evE_bor, borK_bl, borK_int, frz_nil, frz_none, frz_some, evE_idxO, idxOK_some, evEs_nil, evEs_cons, evI_seq, evI_enum, evI_zip, evI_range, evI_own, ownK_some, bndK_some, evS_set, evS_setO, own_lst, own_dk, evS_par, evPar_nil, evPar_cons, setPar_nil, setPar_cons, evFor_nil, evS_app, appK_some, evS_pop, evS_put, evS_putH, evS_exp, evS_ret, evS_raise, evS_iff, evS_for, evS_whl, evS_frz, frzK_some, evSS_nil, evSS_cons, out_nx, out_rt, out_exc, bindS_exc, R.bind_ok, R.bindS_ok, RS.bind_nx, RS.bind_rt, RS.bind_exc, R.bind_exc, bindS_exc, liftO_some, ite_and, ite_or, List.getElem?_cons_zero, List.getElem?_cons_succ, List.length_map, List.length_cons, List.length_nil, bindT, List.set_cons_zero, List.set_cons_succ, allB_map, allT, if_true, if_false, reduceCtorEq, Nat.reduceAdd, Nat.reduceLT, ↓reduceIte, decide_true, decide_false, Bool.and_true, Bool.true_and, Bool.false_and, Bool.and_false, Bool.or_false, Bool.false_or, Bool.or_true, Bool.true_or, Bool.not_true, Bool.not_false, Bool.false_eq_true, $ts,*])
section
variable {tab : Nat → Option FD} {con : Nat → Option D} {TD : Nat → Nat → Option D} {fu n : Nat} {st : HSt}
/-! ### names that no box has -/
def BadN (w : Wr) (d : D) : Prop := isiD .str d = some false ∨ ∃ s, d = .str s ∧ memS s w.ns = false
theorem s_need_box_bad (T : TabW tab con) (h : Is tab 12 2 2 b_need_box) {w : Wr} (hl : w.bs.length ≤ 1000) {d : D} (hd : BadN w d) : (evC tab con TD fu) (n + 2) 12 [w.d, d] st = .exc 2 st := by
  rcases hd with hd | ⟨s, rfl, hs⟩
  · exact s_need_box_not T h hl hd
  · rw [s_need_box T h hl, hs]; rfl
theorem b_inside_bad (T : TabW tab con) (h12 : Is tab 12 2 2 b_need_box) (h : Is tab 17 2 2 b_inside) {w : Wr} (g : GoodW fu w) {d : D} (hd : BadN w d) : (evC tab con TD fu) (n + 6) 17 [w.d, d] st = .exc 2 st := by
  rw [evC_succ h]
  show (evSS con ((evC tab con TD fu) (n + 5)) TD fu [some (false, w.d), some (false, d)] b_inside st).out = _
  unfold b_inside
  simp_arith [s_need_world T g, s_need_box_bad T h12 g.len hd]
theorem b_depth_bad (T : TabW tab con) (h12 : Is tab 12 2 2 b_need_box) (h : Is tab 49 2 2 b_depth) {w : Wr} (g : GoodW fu w) {d : D} (hd : BadN w d) : (evC tab con TD fu) (n + 6) 49 [w.d, d] st = .exc 2 st := by
  rw [evC_succ h]
  show (evSS con ((evC tab con TD fu) (n + 5)) TD fu [some (false, w.d), some (false, d)] b_depth st).out = _
  unfold b_depth
  simp_arith [s_need_world T g, s_need_box_bad T h12 g.len hd]
theorem b_clear_bad1 (T : TabW tab con) (h12 : Is tab 12 2 2 b_need_box) (h : Is tab 50 3 3 b_is_clear) {w : Wr} (g : GoodW fu w) {d e : D} (hd : BadN w d) : (evC tab con TD fu) (n + 6) 50 [w.d, d, e] st = .exc 2 st := by
  rw [evC_succ h]
  show (evSS con ((evC tab con TD fu) (n + 5)) TD fu [some (false, w.d), some (false, d), some (false, e)] b_is_clear st).out = _
  unfold b_is_clear
  simp_arith [s_need_world T g, s_need_box_bad T h12 g.len hd]
theorem b_clear_bad2 (T : TabW tab con) (h12 : Is tab 12 2 2 b_need_box) (h : Is tab 50 3 3 b_is_clear) {w : Wr} (g : GoodW fu w) {s : Nm} {d : D} (hs : memS s w.ns = true) (hd : BadN w d) : (evC tab con TD fu) (n + 6) 50 [w.d, .str s, d] st = .exc 2 st := by
  rw [evC_succ h]
  show (evSS con ((evC tab con TD fu) (n + 5)) TD fu [some (false, w.d), some (false, .str s), some (false, d)] b_is_clear st).out = _
  unfold b_is_clear
  simp_arith [s_need_world T g, s_need_box T h12 g.len, hs, s_need_box_bad T h12 g.len hd]
theorem b_seers_bad (T : TabW tab con) (h12 : Is tab 12 2 2 b_need_box) (h : Is tab 52 2 2 b_seers) {w : Wr} (g : GoodW fu w) {d : D} (hd : BadN w d) : (evC tab con TD fu) (n + 6) 52 [w.d, d] st = .exc 2 st := by
  rw [evC_succ h]
  show (evSS con ((evC tab con TD fu) (n + 5)) TD fu [some (false, w.d), some (false, d)] b_seers st).out = _
  unfold b_seers
  simp_arith [s_need_world T g, s_need_box_bad T h12 g.len hd]
theorem b_alone_bad (T : TabW tab con) (h12 : Is tab 12 2 2 b_need_box) (h : Is tab 53 3 2 b_alone) {w : Wr} (g : GoodW fu w) {d : D} (hd : BadN w d) : (evC tab con TD fu) (n + 6) 53 [w.d, d] st = .exc 2 st := by
  rw [evC_succ h]
  show (evSS con ((evC tab con TD fu) (n + 5)) TD fu [some (false, w.d), some (false, d), none] b_alone st).out = _
  unfold b_alone
  simp_arith [s_need_world T g, s_need_box_bad T h12 g.len hd]
/-! ### dice -/
theorem smallI_of {i : Int} (h1 : -18446744073709551616 < i) (h2 : i < 18446744073709551616) : smallI i = true := by
  unfold smallI
  rw [decide_eq_true h1, decide_eq_true h2]; rfl
theorem mul_small {i j : Int} (h : smallI j = true) : mulD (.int i) (.int j) = some (.int (i * j)) := by
  show (if mulOk i j then _ else _) = _
  rw [if_pos (by unfold mulOk; rw [h]; simp)]
theorem mul_small' {i j : Int} (h : smallI i = true) : mulD (.int i) (.int j) = some (.int (i * j)) := by
  show (if mulOk i j then _ else _) = _
  rw [if_pos (by unfold mulOk; rw [h]; simp)]
theorem log_lt {i : Int} {k : Nat} (hk : k ≠ 0) (h0 : 0 ≤ i) (h : i < 2 ^ k) : i.natAbs.log2 < k := by
  by_cases z : i.natAbs = 0
  · rw [z]; simpa using Nat.pos_of_ne_zero hk
  · rw [Nat.log2_lt z]
    have : (i.natAbs : Int) = i := Int.natAbs_of_nonneg h0
    exact_mod_cast (by omega : (i.natAbs : Int) < 2 ^ k)
theorem mul_log {i j : Int} {a b : Nat} (hi : i.natAbs.log2 < a) (hj : j.natAbs.log2 < b) (hab : a + b ≤ 1000000) : mulD (.int i) (.int j) = some (.int (i * j)) := by
  show (if mulOk i j then _ else _) = _
  rw [if_pos (by unfold mulOk; rw [decide_eq_true (by omega : i.natAbs.log2 + j.natAbs.log2 < 1000000)]; simp)]
theorem add_int {i j : Int} : addD (.int i) (.int j) = some (.int (i + j)) := rfl
theorem mod_pos {i j : Int} (h : 0 < j) : modD (.int i) (.int j) = some (.int (i % j)) := by
  show (if decide (0 < j) then _ else _) = _
  rw [decide_eq_true h]; rfl
theorem fdiv_pos {i j : Int} (h : 0 < j) (h2 : j < 2 ^ 200) : fdivD (.int i) (.int j) = some (.int (i / j)) := by
  show (if decide (0 < j) && decide (j.natAbs.log2 < 9000) then _ else _) = _
  rw [decide_eq_true h, decide_eq_true (by have := log_lt (k := 200) (by decide) (by omega) h2; omega)]; rfl
theorem s_drawn (h : Is tab 39 3 2 b_law_drawn) {a b : Int} : ∃ r : Int, (evC tab con TD fu) (n + 1) 39 [.int a, .int b] st = .ok (.int r) st := by
  rw [evC_succ h]
  have e : ∀ r : Int, (∃ r, runD con ((evC tab con TD fu) n) TD fu f_law_drawn [.int a, .int b] st = .ok (.int r) st) → ∃ r, runD con ((evC tab con TD fu) n) TD fu f_law_drawn [.int a, .int b] st = .ok (.int r) st := fun _ h => h
  show ∃ r : Int, (evSS con ((evC tab con TD fu) n) TD fu [some (false, .int a), some (false, .int b), none] b_law_drawn st).out = .ok (.int r) st
  unfold b_law_drawn
  generalize hm0 : (a * 6364136223846793005 + (b + 1) * 1442695040888963407) % 340282366920938463463374607431768211507 = m0
  have b0 : 0 ≤ m0 ∧ m0 < 340282366920938463463374607431768211507 := by rw [← hm0]; exact ⟨Int.emod_nonneg _ (by decide), Int.emod_lt_of_pos _ (by decide)⟩
  generalize hm1 : (m0 * m0) % 340282366920938463463374607431768211297 = m1
  have b1 : 0 ≤ m1 ∧ m1 < 340282366920938463463374607431768211297 := by rw [← hm1]; exact ⟨Int.emod_nonneg _ (by decide), Int.emod_lt_of_pos _ (by decide)⟩
  generalize hx : m1 % 18446744073709551557 + 1 = x
  have bx : 0 ≤ x ∧ x < 2 ^ 100 := by
    rw [← hx]
    have := Int.emod_nonneg m1 (by decide : (18446744073709551557 : Int) ≠ 0)
    have := Int.emod_lt_of_pos m1 (by decide : (0 : Int) < 18446744073709551557)
    omega
  generalize hy : m1 / 18446744073709551557 + 1 = y
  have by_ : 0 ≤ y ∧ y < 2 ^ 200 := by
    rw [← hy]
    omega
  have p1 : mulD (.int a) (.int 6364136223846793005) = some (.int (a * 6364136223846793005)) := mul_small (by decide)
  have p2 : mulD (.int (b + 1)) (.int 1442695040888963407) = some (.int ((b + 1) * 1442695040888963407)) := mul_small (by decide)
  have p3 : mulD (.int m0) (.int m0) = some (.int (m0 * m0)) := mul_log (log_lt (k := 200) (by decide) b0.1 (by omega)) (log_lt (k := 200) (by decide) b0.1 (by omega)) (by decide)
  have p4 : mulD (.int x) (.int y) = some (.int (x * y)) := mul_log (log_lt (k := 200) (by decide) bx.1 (by omega)) (log_lt (k := 200) (by decide) by_.1 by_.2) (by decide)
  have hxy : 0 ≤ x * y ∧ x * y < 2 ^ 300 := ⟨Int.mul_nonneg bx.1 by_.1, by
    have h1 : x * y ≤ 2 ^ 100 * y := Int.mul_le_mul_of_nonneg_right (by omega) by_.1
    have h2 : (2 : Int) ^ 100 * y < 2 ^ 100 * 2 ^ 200 := Int.mul_lt_mul_of_pos_left by_.2 (by decide)
    have h3 : (2 : Int) ^ 100 * 2 ^ 200 = 2 ^ 300 := by decide
    omega⟩
  have p5 : mulD (.int (x * y)) (.int m1) = some (.int (x * y * m1)) := mul_log (log_lt (k := 300) (by decide) hxy.1 hxy.2) (log_lt (k := 200) (by decide) b1.1 (by omega)) (by decide)
  refine ⟨x * y * m1 % 340282366920938463463374607431768211507, ?_⟩
  simp_arith [p1, p2, add_int, mod_pos (show (0 : Int) < 340282366920938463463374607431768211507 by decide), hm0, p3, mod_pos (show (0 : Int) < 340282366920938463463374607431768211297 by decide), hm1, mod_pos (show (0 : Int) < 18446744073709551557 by decide), hx, fdiv_pos (show (0 : Int) < 18446744073709551557 by decide) (by decide), hy, p4, p5]
def dieH (a b : Int) : HD := .lst [.int a, .int b]
theorem s_roll (h39 : Is tab 39 3 2 b_law_drawn) (h : Is tab 40 3 2 b_law_roll) {k : Nat} {a b many : Int} (hk : st[k]? = some (dieH a b)) (h0 : 0 < many) (h1 : many < 1000) : ∃ r a' b' : Int, 0 ≤ r ∧ r < many ∧ (evC tab con TD fu) (n + 2) 40 [.hnd k, .int many] st = .ok (.int r) (st.set k (dieH a' b')) := by
  have key : ∃ r a' b' : Int, 0 ≤ r ∧ r < many ∧ (evSS con ((evC tab con TD fu) (n + 1)) TD fu [some (false, .hnd k), some (false, .int many), none] b_law_roll st).out = .ok (.int r) (st.set k (dieH a' b')) := by
    unfold b_law_roll
    have hp : powD (.int 10) (.int 18) = some (.int 1000000000000000000) := by rfl
    have o2p : ∀ {a b : D}, op2 st .pow a b = powD a b := rfl
    have i1 : ∀ {st1 : HSt} {a b : Int}, st1[k]? = some (dieH a b) → idxD st1 (.hnd k) (.int 0) = some (.int a) ∧ idxD st1 (.hnd k) (.int 1) = some (.int b) := fun {st1 a b} hk => by
      have e : dictOf st1 (.hnd k) = none := by
        show (match st1[k]? with | some (.dk ks vs) => some (ks, vs) | _ => none) = none
        rw [hk]; rfl
      have s : seqs st1 (.hnd k) = some [.int a, .int b] := by
        show (match st1[k]? with | some (.lst ds) => some ds | _ => none) = _
        rw [hk]; rfl
      constructor
      · unfold idxD; rw [e]; dsimp only; rw [s]; rfl
      · unfold idxD; rw [e]; dsimp only; rw [s]; rfl
    have put0 : ∀ {st1 : HSt} {env : EvEnv} {a b v : Int}, st1[k]? = some (dieH a b) → putHK (.hnd k) (.int 0) (.int v) env st1 = .nx env (st1.set k (dieH v b)) := fun h1 => by
      unfold putHK; dsimp only; rw [h1]; rfl
    have put1 : ∀ {st1 : HSt} {env : EvEnv} {a b v : Int}, st1[k]? = some (dieH a b) → putHK (.hnd k) (.int 1) (.int v) env st1 = .nx env (st1.set k (dieH a v)) := fun h1 => by
      unfold putHK; dsimp only; rw [h1]; rfl
    have klt : k < st.length := (List.getElem?_eq_some_iff.mp hk).1
    cases hb : decide ((1000000000000000000 : Int) ≤ a) with
    | true =>
      refine ⟨a % many, a / many, b, Int.emod_nonneg _ (by omega), Int.emod_lt_of_pos _ h0, ?_⟩
      simp_arith [(i1 hk).1, o2p, hp, hb, mod_pos h0, fdiv_pos h0 (by omega), put0 hk]
    | false =>
      obtain ⟨r, hr⟩ := s_drawn (n := n) (TD := TD) (fu := fu) (con := con) (st := st.set k (dieH a (b + 1))) (a := a) (b := b + 1) h39
      have hk2 : (st.set k (dieH a (b + 1)))[k]? = some (dieH a (b + 1)) := List.getElem?_set_self klt
      refine ⟨r / 8 % many, a, b + 1, Int.emod_nonneg _ (by omega), Int.emod_lt_of_pos _ h0, ?_⟩
      simp_arith [(i1 hk).1, (i1 hk).2, o2p, hp, hb, add_int, put1 hk, (i1 hk2).1, (i1 hk2).2, hr, fdiv_pos (show (0 : Int) < 8 by decide) (by decide), mod_pos h0]
  obtain ⟨r, a', b', e1, e2, e3⟩ := key
  exact ⟨r, a', b', e1, e2, by rw [evC_succ h]; exact e3⟩
/-! ### rounds -/
theorem okDs_ints {k : Nat} : ∀ ns : List Int, okDs (ns.map .int) k = true
  | [] => rfl
  | n :: ns => by simp [okDs, okD, okDs_ints ns]
theorem idx_fl {ds : List D} {i : Int} : idxD st (.fl ds) (.int i) = (idxN ds.length i).bind fun j => ds[j]? := rfl
theorem len_fl {ds : List D} : lenD st (.fl ds) = some ds.length := rfl
theorem idxN_ok {m : Nat} {i : Int} (h0 : 0 ≤ i) (h1 : i < m) : idxN m i = some i.toNat := by
  unfold idxN
  rw [if_pos h0, if_pos h1]
theorem s_cell (h : Is tab 38 2 2 b_law_cell) {ns : List Int} {k : Int} (hn : ns.length ≤ 1000) (h0 : 0 ≤ k) (h1 : k < 1000) : ∃ c : Int, (evC tab con TD fu) (n + 1) 38 [.fl (ns.map .int), .int k] st = .ok (.int c) st := by
  rw [evC_succ h]
  show ∃ c : Int, (evSS con ((evC tab con TD fu) n) TD fu [some (false, .fl (ns.map .int)), some (false, .int k)] b_law_cell st).out = .ok (.int c) st
  unfold b_law_cell
  have e : eqD (.fl (ns.map .int)) (.lst []) = some (ns.map D.int).isEmpty := by
    show (if okDs (ns.map .int) 50 then some (ns.map D.int).isEmpty else none) = _
    rw [okDs_ints]; rfl
  have p1 : mulD (.int k) (.int 7919) = some (.int (k * 7919)) := mul_small (by decide)
  cases q : (ns.map D.int).isEmpty with
  | true => exact ⟨k * 7919, by simp_arith [e, q, p1]⟩
  | false =>
    have hpos : 0 < ns.length := by
      cases ns with
      | nil => cases q
      | cons _ _ => simp
    have hm : (0 : Int) < (ns.length : Int) := by omega
    have p2 : mulD (.int (k / (ns.length : Int))) (.int 104729) = some (.int (k / (ns.length : Int) * 104729)) := mul_small (by decide)
    have r0 := Int.emod_nonneg k (show (ns.length : Int) ≠ 0 by omega)
    have r1 := Int.emod_lt_of_pos k hm
    have hlt : (k % (ns.length : Int)).toNat < ns.length := by omega
    have e3 : (ns.map D.int)[(k % (ns.length : Int)).toNat]? = some (.int ns[(k % (ns.length : Int)).toNat]) := by rw [List.getElem?_map, List.getElem?_eq_getElem hlt]; rfl
    refine ⟨ns[(k % (ns.length : Int)).toNat] + k / (ns.length : Int) * 104729, ?_⟩
    simp_arith [e, q, len_fl, mod_pos hm, fdiv_pos hm (by omega), idx_fl, idxN_ok r0 r1, e3, p2, add_int]
def hnds : Nat → Nat → List D
  | _, 0 => []
  | a, j + 1 => .hnd a :: hnds (a + 1) j
theorem lc_rounds (h : Is tab 38 2 2 b_law_cell) {ns : List Int} (hn : ns.length ≤ 1000) {s1 s2 : Sl} : ∀ (j : Nat) (i : Int) (st : HSt), 0 ≤ i → i + j < 1000 → ∃ cs : List Int, cs.length = j ∧
    evLC (fun e d => bindT e (.nm 2) d) (fun _ st => .ok (.bl true) st) (fun e st => evE con ((evC tab con TD fu) (n + 1)) TD e (.lstH (.cons (.call 38 (.cons (.var 0) (.cons (.var 2) .nil))) (.cons (.int 0) .nil))) st) [some (false, .fl (ns.map .int)), s1, s2] (rangeD j i) st = .ok (hnds st.length j) (st ++ cs.map (dieH · 0))
  | 0, i, st, _, _ => ⟨[], rfl, by simp [rangeD, evLC, hnds]⟩
  | j + 1, i, st, h0, h1 => by
    obtain ⟨c, hc⟩ := s_cell (n := n) (con := con) (TD := TD) (fu := fu) (st := st) h hn h0 (by omega)
    obtain ⟨cs, e1, e2⟩ := lc_rounds h hn (s1 := s1) (s2 := s2) j (i + 1) (st ++ [dieH c 0]) (by omega) (by omega)
    refine ⟨c :: cs, by simp [e1], ?_⟩
    have eb : bindT [some (false, D.fl (ns.map .int)), s1, s2] (.nm 2) (.int i) = some [some (false, .fl (ns.map .int)), s1, some (false, .int i)] := rfl
    have ee : evE con ((evC tab con TD fu) (n + 1)) TD [some (false, .fl (ns.map .int)), s1, some (false, .int i)] (.lstH (.cons (.call 38 (.cons (.var 0) (.cons (.var 2) .nil))) (.cons (.int 0) .nil))) st = .ok (.hnd st.length) (st ++ [dieH c 0]) := by
      simp_arith [hc]; rfl
    rw [rangeD, evLC, eb]
    dsimp only [R.bind_ok]
    rw [ee]
    dsimp only [R.bind_ok]
    rw [e2]
    simp [hnds]
theorem s_rounds (h : Is tab 38 2 2 b_law_cell) (h41 : Is tab 41 3 2 b_law_rounds) {ns : List Int} {high : Nat} (hn : ns.length ≤ 1000) (hh : high ≤ 100) : ∃ cs : List Int, (evC tab con TD fu) (n + 2) 41 [.fl (ns.map .int), .int high] [] = .ok (.lst (hnds 0 cs.length)) (cs.map (dieH · 0)) := by
  rw [evC_succ h41]
  show ∃ cs : List Int, (evSS con ((evC tab con TD fu) (n + 1)) TD fu [some (false, .fl (ns.map .int)), some (false, .int high), none] b_law_rounds []).out = _
  unfold b_law_rounds
  generalize hm : (if (if ((ns.length : Nat) : Int) < (high : Int) then ((ns.length : Nat) : Int) else (high : Int)) > 1 then (if ((ns.length : Nat) : Int) < (high : Int) then ((ns.length : Nat) : Int) else (high : Int)) else 1) = m
  have hb : 0 ≤ m ∧ m ≤ 100 := by
    rw [← hm]
    split
    · split <;> omega
    · omega
  obtain ⟨cs, e1, e2⟩ := lc_rounds (n := n) (con := con) (TD := TD) (fu := fu) h hn (s1 := some (false, .int high)) (s2 := none) m.toNat 0 [] (by omega) (by omega)
  refine ⟨cs, ?_⟩
  have key : evE con ((evC tab con TD fu) (n + 1)) TD [some (false, .fl (ns.map .int)), some (false, .int high), none] (.lc [2] (.nm 2) (.range (.bi .max2 (.cons (.int 1) (.cons (.bi .min2 (.cons (.var 1) (.cons (.bi .len (.cons (.var 0) .nil)) .nil))) .nil)))) (.lstH (.cons (.call 38 (.cons (.var 0) (.cons (.var 2) .nil))) (.cons (.int 0) .nil)))) [] = .ok (.lst (hnds 0 cs.length)) (cs.map (dieH · 0)) := by
    have hr : evI con ((evC tab con TD fu) (n + 1)) TD [some (false, .fl (ns.map .int)), some (false, .int high), none] (.range (.bi .max2 (.cons (.int 1) (.cons (.bi .min2 (.cons (.var 1) (.cons (.bi .len (.cons (.var 0) .nil)) .nil))) .nil)))) [] = .ok (rangeD m.toNat 0) [] := by
      simp_arith [len_fl, hm, rngK_int (show -4611686018427387904 ≤ m ∧ m < 4611686018427387904 by omega)]
    have hl : ∀ (j : Nat) (i : Int), (rangeD j i).length = j := fun j => by
      induction j with
      | zero => intro i; rfl
      | succ j ih => intro i; simp [rangeD, ih]
    simp only [evE, hr, R.bind_ok]
    rw [show Nat.ble (rangeD m.toNat 0).length line = true from Nat.ble_eq.mpr (by rw [hl]; unfold line; omega)]
    rw [guardP_true]
    have e2 := e2
    simp only [evE] at e2
    rw [show wipeE [some (false, .fl (ns.map .int)), some (false, .int high), none] [2] = [some (false, .fl (ns.map .int)), some (false, .int high), none] from rfl, e2, noExc_ok]
    simp [e1]
  simp_arith [key]
end
end Ev.Mr
namespace Ev.Mr
local macro_rules | `(tactic| simp_arith [$ts,*]) => `(tactic| simp only [op2_add, op2_sub, op2_mul, op2_fdiv, op2_mod, op2_eq, op2_ne, op2_lt, op2_le, op2_gt, op2_ge, op2_is, op2_isnot, op2_in, op2_notin, op2_idx, bD_some, nD_some, ltD_int, ltD_str, leD_int, bi_len, bi_all, bi_dict, bi_dictT, bi_sorted, bi_tuple, bi_list, bi_max, bi_min, len_tup, len_lst, len_dk, seqI_tup, seqI_lst, seqP_tup, seqP_lst, seqs_tup, seqs_lst, isi_str_str, isi_tup_tup, is_non_non, is_str_non, is_lst_non, is_tup_non, idx_tup, idx_lst, idx_dkS, in_str, obind_some, omap_some, andK_bl, orK_bl, notK_bl, iteK_bl, chnK_bl, iffK_bl, evE_var, varK_some, evE_non, evE_bl, evE_int, evE_str, evE_glob, evE_tup, evE_lst, evE_lstH, evE_dct, evE_op, evE_chn, evE_and2, evE_or2, evE_not, evE_ife, evE_call, evE_bi, evE_isi, evE_slc, evE_rev, revK_lst, evE_skey, skeyK_lst, evE_told, evE_bor, borK_bl, borK_int, frz_nil, frz_none, frz_some, evE_idxO, idxOK_some, evEs_nil, evEs_cons, evI_seq, evI_enum, evI_zip, evI_range, evI_own, ownK_some, bndK_some, evS_set, evS_setO, own_lst, own_dk, evS_par, evPar_nil, evPar_cons, setPar_nil, setPar_cons, evFor_nil, evS_app, appK_some, evS_pop, evS_put, evS_putH, evS_exp, evS_ret, evS_raise, evS_iff, evS_for, evS_whl, evS_frz, frzK_some, evSS_nil, evSS_cons, out_nx, out_rt, out_exc, bindS_exc, R.bind_ok, R.bindS_ok, RS.bind_nx, RS.bind_rt, RS.bind_exc, R.bind_exc, bindS_exc, liftO_some, ite_and, ite_or, List.getElem?_cons_zero, List.getElem?_cons_succ, List.length_map, List.length_cons, List.length_nil, bindT, List.set_cons_zero, List.set_cons_succ, allB_map, allT, if_true, if_false, reduceCtorEq, Nat.reduceAdd, Nat.reduceLT, ↓reduceIte, decide_true, decide_false, Bool.and_true, Bool.true_and, Bool.false_and, Bool.and_false, Bool.or_false, Bool.false_or, Bool.or_true, Bool.true_or, Bool.not_true, Bool.not_false, Bool.false_eq_true, $ts,*])
section
variable {tab : Nat → Option FD} {con : Nat → Option D} {TD : Nat → Nat → Option D} {fu n : Nat} {st : HSt}
/-! ### a drawn world -/
def hallN : Nm := [104, 97, 108, 108]
def binN : Nm := [98, 105, 110]
def crateN : Nm := [99, 114, 97, 116, 101]
def drumN : Nm := [100, 114, 117, 109]
def boxN : List Nm := [hallN, binN, crateN, drumN]
def openN : Nm := [111, 112, 101, 110]
def shutN : Nm := [115, 104, 117, 116]
def noneN : Nm := [110, 111, 110, 101]
def whoN : List Nm := [[97, 110, 110], [98, 111, 98], [99, 121]]
theorem idx_pick {l : List Nm} {r : Int} (h0 : 0 ≤ r) (h1 : r < (l.length : Int)) : ∃ s, l[r.toNat]? = some s ∧ ∀ st, idxD st (.lst (l.map .str)) (.int r) = some (.str s) := by
  have hlt : r.toNat < l.length := by omega
  refine ⟨l[r.toNat], List.getElem?_eq_getElem hlt, fun st => ?_⟩
  rw [idx_lst, List.length_map, idxN_ok h0 h1]
  show (l.map D.str)[r.toNat]? = _
  rw [List.getElem?_map, List.getElem?_eq_getElem hlt]; rfl
def IsDie (st : HSt) (k : Nat) : Prop := ∃ a b, st[k]? = some (dieH a b)
theorem IsDie.set {st : HSt} {k : Nat} (h : IsDie st k) (a b : Int) : IsDie (st.set k (dieH a b)) k := by
  obtain ⟨x, y, e⟩ := h
  exact ⟨a, b, List.getElem?_set_self (List.getElem?_eq_some_iff.mp e).1⟩
theorem s_roll' (h39 : Is tab 39 3 2 b_law_drawn) (h : Is tab 40 3 2 b_law_roll) {k : Nat} {many : Int} (hk : IsDie st k) (h0 : 0 < many) (h1 : many < 1000) : ∃ r a' b' : Int, 0 ≤ r ∧ r < many ∧ (evC tab con TD fu) (n + 2) 40 [.hnd k, .int many] st = .ok (.int r) (st.set k (dieH a' b')) := by
  obtain ⟨a, b, e⟩ := hk
  exact s_roll h39 h e h0 h1
def awB : SS := .cons (.set (.nm 7) (.op .idx (.var 2) (.call 40 (.cons (.var 0) (.cons (.op .add (.var 6) (.int 1)) .nil))))) (.cons (.par [8, 9] [(false, (.op .idx (.lst (.cons (.str [111, 112, 101, 110]) (.cons (.str [115, 104, 117, 116]) (.cons (.str [115, 104, 117, 116]) .nil)))) (.call 40 (.cons (.var 0) (.cons (.int 3) .nil))))), (false, (.op .idx (.lst (.cons (.str [110, 111, 110, 101]) (.cons (.str [105, 110]) (.cons (.str [111, 117, 116]) (.cons (.str [98, 111, 116, 104]) .nil))))) (.call 40 (.cons (.var 0) (.cons (.int 4) .nil)))))]) (.cons (.app 3 (.tup (.cons (.var 5) (.cons (.var 7) (.cons (.var 8) (.cons (.var 9) .nil)))))) .nil))
def awE (k : Nat) (high : Int) (L : List Nm) (l : List D) (x4 x5 x6 x7 x8 x9 : Sl) : EvEnv := [some (false, .hnd k), some (false, .int high), some (false, .lst (L.map .str)), some (true, .lst l), x4, x5, x6, x7, x8, x9]
theorem mem_take_of {l : List Nm} {i j : Nat} {s : Nm} (h : l[i]? = some s) (hj : i < j) : s ∈ l.take j := List.mem_of_getElem? (i := i) (by rw [List.getElem?_take_of_lt hj]; exact h)
theorem aw_body (h39 : Is tab 39 3 2 b_law_drawn) (h40 : Is tab 40 3 2 b_law_roll) {k : Nat} {high : Int} {L : List Nm} {l : List D} {x4 x7 x8 x9 : Sl} {nm : Nm} {i : Nat} (hk : IsDie st k) (hi : i + 1 ≤ L.length) (hL : L.length ≤ 100) (hl : l.length ≤ 1000) :
    ∃ (b : Bx) (a' b' : Int) (y7 y8 y9 : Sl), b.nm = nm ∧ (∃ o ∈ L.take (i + 1), b.out = some o) ∧ b.lid ∈ lids ∧ b.win ∈ wins ∧
      evSS con ((evC tab con TD fu) (n + 2)) TD fu (awE k high L l x4 (some (false, .str nm)) (some (false, .int i)) x7 x8 x9) awB st = .nx (awE k high L (l ++ [b.d]) x4 (some (false, .str nm)) (some (false, .int i)) y7 y8 y9) (st.set k (dieH a' b')) := by
  obtain ⟨r1, a1, b1, h10, h11, e1⟩ := s_roll' (n := n) (con := con) (TD := TD) (fu := fu) (many := (i : Int) + 1) h39 h40 hk (by omega) (by omega)
  obtain ⟨r2, a2, b2, h20, h21, e2⟩ := s_roll' (n := n) (con := con) (TD := TD) (fu := fu) (many := 3) h39 h40 (hk.set a1 b1) (by omega) (by omega)
  obtain ⟨r3, a3, b3, h30, h31, e3⟩ := s_roll' (n := n) (con := con) (TD := TD) (fu := fu) (many := 4) h39 h40 ((hk.set a1 b1).set a2 b2) (by omega) (by omega)
  obtain ⟨o, o1, o2⟩ := idx_pick (l := L) (r := r1) h10 (by omega)
  obtain ⟨lid, l1, l2⟩ := idx_pick (l := [[111, 112, 101, 110], [115, 104, 117, 116], [115, 104, 117, 116]]) (r := r2) h20 (by simpa using h21)
  obtain ⟨win, w1, w2⟩ := idx_pick (l := wins) (r := r3) h30 (by simpa [wins] using h31)
  simp only [List.set_set] at e2 e3
  refine ⟨⟨nm, some o, lid, win⟩, a3, b3, some (false, .str o), some (false, .str lid), some (false, .str win), rfl, ⟨o, mem_take_of o1 (by omega), rfl⟩, ?_, List.mem_of_getElem? w1, ?_⟩
  · have := List.mem_of_getElem? l1
    simp [lids] at this ⊢
    exact this
  · have l2 : idxD st (.lst [.str [111, 112, 101, 110], .str [115, 104, 117, 116], .str [115, 104, 117, 116]]) (.int r2) = some (.str lid) := l2 st
    have l2 : ∀ st, idxD st (.lst [.str [111, 112, 101, 110], .str [115, 104, 117, 116], .str [115, 104, 117, 116]]) (.int r2) = some (.str lid) := fun _ => l2
    have w2 : ∀ st, idxD st (.lst [.str [110, 111, 110, 101], .str [105, 110], .str [111, 117, 116], .str [98, 111, 116, 104]]) (.int r3) = some (.str win) := w2
    simp only [idx_lst, List.length_map, List.length_cons, List.length_nil, Nat.reduceAdd] at o2 l2 w2
    have hlt : l.length < line := by unfold line; omega
    unfold awB awE
    simp_arith [add_int, e1, e2, e3, o2 st, l2 st, w2 st, if_pos hlt]
    rfl
/-- rows behind the hall's -/
structure Rows (L : List Nm) (i : Nat) (bs : List Bx) : Prop where
  out : ∀ (j : Nat) (b : Bx), bs[j]? = some b → ∃ o ∈ L.take (i + j + 1), b.out = some o
  lid : ∀ b ∈ bs, b.lid ∈ lids
  win : ∀ b ∈ bs, b.win ∈ wins
theorem aw_loop (h39 : Is tab 39 3 2 b_law_drawn) (h40 : Is tab 40 3 2 b_law_roll) {k : Nat} {high : Int} {L : List Nm} {x4 : Sl} (hL : L.length ≤ 100) : ∀ (rest : List Nm) (i : Nat) (st : HSt) (l : List D) (x5 x6 x7 x8 x9 : Sl), IsDie st k → L.length = i + 1 + rest.length → l.length + rest.length ≤ 1000 →
    ∃ (bs : List Bx) (a b : Int) (y5 y6 y7 y8 y9 : Sl), bs.map Bx.nm = rest ∧ Rows L i bs ∧ evFor (fun env st => evSS con ((evC tab con TD fu) (n + 2)) TD fu env awB st) (.tp [.nm 6, .nm 5]) (enumD i (rest.map .str)) (awE k high L l x4 x5 x6 x7 x8 x9) st
      = .nx (awE k high L (l ++ bs.map Bx.d) x4 y5 y6 y7 y8 y9) (st.set k (dieH a b))
  | [], i, st, l, x5, x6, x7, x8, x9, ⟨a, b, e⟩, _, _ => ⟨[], a, b, x5, x6, x7, x8, x9, rfl, ⟨fun j b h => by simp at h, fun b h => by simp at h, fun b h => by simp at h⟩, by
    obtain ⟨h1, h2⟩ := List.getElem?_eq_some_iff.mp e
    rw [List.map_nil, List.map_nil, List.append_nil]
    show RS.nx _ st = _
    rw [← h2, List.set_getElem_self]⟩
  | nm :: rest, i, st, l, x5, x6, x7, x8, x9, hk, hlen, hl => by
    simp only [List.length_cons] at hlen hl
    obtain ⟨b, a1, b1, y7, y8, y9, e1, e2, e3, e4, e5⟩ := aw_body (n := n) (con := con) (TD := TD) (fu := fu) (high := high) (L := L) (l := l) (x4 := x4) (x7 := x7) (x8 := x8) (x9 := x9) (nm := nm) (i := i) h39 h40 hk (by omega) hL (by omega)
    obtain ⟨bs, a2, b2, z5, z6, z7, z8, z9, f1, f2, f3⟩ := aw_loop h39 h40 (k := k) (high := high) (L := L) (x4 := x4) hL rest (i + 1) (st.set k (dieH a1 b1)) (l ++ [b.d]) (some (false, .str nm)) (some (false, .int i)) y7 y8 y9 (hk.set a1 b1) (by omega) (by simp; omega)
    refine ⟨b :: bs, a2, b2, z5, z6, z7, z8, z9, by simp [e1, f1], ⟨fun j c h => ?_, fun c h => ?_, fun c h => ?_⟩, ?_⟩
    · cases j with
      | zero => cases h; exact e2
      | succ j =>
        obtain ⟨o, h1, h2⟩ := f2.out j c (by simpa using h)
        exact ⟨o, by rw [show i + (j + 1) + 1 = i + 1 + j + 1 by omega]; exact h1, h2⟩
    · rcases List.mem_cons.mp h with rfl | h
      · exact e3
      · exact f2.lid c h
    · rcases List.mem_cons.mp h with rfl | h
      · exact e4
      · exact f2.win c h
    · rw [List.map_cons, enumD, evFor_cons (env' := awE k high L l x4 (some (false, .str nm)) (some (false, .int i)) x7 x8 x9) (by rfl), e5, RS.bind_nx, f3, List.set_set]
      simp
def awW : SS := .cons (.app 4 (.tup (.cons (.var 5) (.cons (.op .idx (.var 2) (.call 40 (.cons (.var 0) (.cons (.bi .len (.cons (.var 2) .nil)) .nil)))) .nil)))) .nil
def awF (k : Nat) (high : Int) (L : List Nm) (l : D) (ws : List D) (x5 x6 x7 x8 x9 : Sl) : EvEnv := [some (false, .hnd k), some (false, .int high), some (false, .lst (L.map .str)), some (true, l), some (true, .lst ws), x5, x6, x7, x8, x9]
theorem aw_who (h39 : Is tab 39 3 2 b_law_drawn) (h40 : Is tab 40 3 2 b_law_roll) {k : Nat} {high : Int} {L : List Nm} {l : D} {x6 x7 x8 x9 : Sl} (hL : L.length ≤ 100) (hL0 : 0 < L.length) : ∀ (rest : List Nm) (st : HSt) (ws : List D) (x5 : Sl), IsDie st k → ws.length + rest.length ≤ 1000 →
    ∃ (ps : List (Nm × Nm)) (a b : Int) (y5 : Sl), ps.map Prod.fst = rest ∧ (∀ p ∈ ps, p.2 ∈ L) ∧ evFor (fun env st => evSS con ((evC tab con TD fu) (n + 2)) TD fu env awW st) (.nm 5) (rest.map .str) (awF k high L l ws x5 x6 x7 x8 x9) st
      = .nx (awF k high L l (ws ++ ps.map wD) y5 x6 x7 x8 x9) (st.set k (dieH a b))
  | [], st, ws, x5, ⟨a, b, e⟩, _ => ⟨[], a, b, x5, rfl, fun p h => by simp at h, by
    obtain ⟨h1, h2⟩ := List.getElem?_eq_some_iff.mp e
    rw [List.map_nil, List.map_nil, List.append_nil]
    show RS.nx _ st = _
    rw [← h2, List.set_getElem_self]⟩
  | nm :: rest, st, ws, x5, hk, hl => by
    simp only [List.length_cons] at hl
    obtain ⟨r1, a1, b1, h10, h11, e1⟩ := s_roll' (n := n) (con := con) (TD := TD) (fu := fu) (many := (L.length : Int)) h39 h40 hk (by omega) (by omega)
    obtain ⟨o, o1, o2⟩ := idx_pick (l := L) (r := r1) h10 h11
    obtain ⟨ps, a2, b2, z5, f1, f2, f3⟩ := aw_who h39 h40 (k := k) (high := high) (L := L) (l := l) (x6 := x6) (x7 := x7) (x8 := x8) (x9 := x9) hL hL0 rest (st.set k (dieH a1 b1)) (ws ++ [wD (nm, o)]) (some (false, .str nm)) (hk.set a1 b1) (by simp; omega)
    refine ⟨(nm, o) :: ps, a2, b2, z5, by simp [f1], fun p hp => ?_, ?_⟩
    · rcases List.mem_cons.mp hp with rfl | hp
      · exact List.mem_of_getElem? o1
      · exact f2 p hp
    · have hlt : ws.length < line := by unfold line; omega
      simp only [idx_lst, List.length_map] at o2
      have eb : evSS con ((evC tab con TD fu) (n + 2)) TD fu (awF k high L l ws (some (false, .str nm)) x6 x7 x8 x9) awW st = .nx (awF k high L l (ws ++ [wD (nm, o)]) (some (false, .str nm)) x6 x7 x8 x9) (st.set k (dieH a1 b1)) := by
        unfold awW awF
        simp_arith [e1, o2 st, if_pos hlt]
        rfl
      rw [List.map_cons, evFor_cons (env' := awF k high L l ws (some (false, .str nm)) x6 x7 x8 x9) (by rfl), eb, RS.bind_nx, f3, List.set_set]
      simp
def insBx (b : Bx) : List Bx → List Bx
  | [] => [b]
  | c :: r => if ltN c.nm b.nm then c :: insBx b r else b :: c :: r
def sortBx : List Bx → List Bx
  | [] => []
  | b :: r => insBx b (sortBx r)
theorem insK_bx {b : Bx} : ∀ {l : List Bx}, insK b.d b.nm (l.map fun c => (c.nm, c.d)) = (insBx b l).map fun c => (c.nm, c.d)
  | [] => rfl
  | c :: l => by
    simp only [List.map_cons, insK, insBx, insK_bx (l := l)]
    cases ltN c.nm b.nm <;> rfl
theorem sortK_bx : ∀ {l : List Bx}, sortK (l.map Bx.d) = some ((sortBx l).map fun c => (c.nm, c.d))
  | [] => rfl
  | b :: l => by
    show (firstS b.d).bind (fun k => (sortK (l.map Bx.d)).map (insK b.d k)) = _
    rw [sortK_bx (l := l)]
    show some (insK b.d b.nm ((sortBx l).map fun c => (c.nm, c.d))) = _
    rw [insK_bx]; rfl
def awR : SS := .cons (.setO 3 (.lst (.cons (.tup (.cons (.str [104, 97, 108, 108]) (.cons .non (.cons (.op .idx (.lst (.cons (.str [111, 112, 101, 110]) (.cons (.str [115, 104, 117, 116]) .nil))) (.call 40 (.cons (.var 0) (.cons (.int 2) .nil)))) (.cons (.str [110, 111, 110, 101]) .nil))))) .nil)))
  (.cons (.for_ (.tp [(.nm 6), (.nm 5)]) (.enum (.slc (.var 2) (.int 1) .non)) awB) (.cons (.setO 4 (.lst .nil)) (.cons (.for_ (.nm 5) (.seq (.slc (.lst (.cons (.str [97, 110, 110]) (.cons (.str [98, 111, 98]) (.cons (.str [99, 121]) .nil)))) .non (.op .add (.int 1) (.call 40 (.cons (.var 0) (.cons (.int 3) .nil)))))) awW)
  (.cons (.frz 3) (.cons (.frz 4) (.cons (.ret (.tup (.cons (.bi .tuple (.cons (.skey (.var 3)) .nil)) (.cons (.bi .tuple (.cons (.var 4) .nil)) .nil)))) .nil))))))
theorem slc_lst1 {d : D} {ds : List D} : slcD st (.lst (d :: ds)) (.int 1) .non = some (.lst ds) := by
  show ((seqs st (.lst (d :: ds))).bind fun ds' => (cutI ds'.length 0 (.int 1)).bind fun i => (cutI ds'.length ds'.length .non).map fun j => D.lst ((ds'.drop i).take (j - i))) = _
  simp [seqs, cutI]
theorem slc_lstN {ds : List D} {v : Int} (h : 0 ≤ v) : slcD st (.lst ds) .non (.int v) = some (.lst (ds.take v.toNat)) := by
  show ((seqs st (.lst ds)).bind fun ds' => (cutI ds'.length 0 .non).bind fun i => (cutI ds'.length ds'.length (.int v)).map fun j => D.lst ((ds'.drop i).take (j - i))) = _
  simp only [seqs, cutI, Option.bind, Option.map, List.drop_zero, Nat.sub_zero]
  rw [if_neg (by omega), show ds.take (min v.toNat ds.length) = ds.take v.toNat from List.take_eq_take_iff.mpr (by omega)]
theorem aw_main (h39 : Is tab 39 3 2 b_law_drawn) (h40 : Is tab 40 3 2 b_law_roll) {k : Nat} {high : Int} {rest : List Nm} (hr : rest.length ≤ 90) (hk : IsDie st k) :
    ∃ (lid : Nm) (bs : List Bx) (ps : List (Nm × Nm)) (m : Nat) (a b : Int), lid ∈ lids ∧ bs.map Bx.nm = rest ∧ Rows (hallN :: rest) 0 bs ∧ ps.map Prod.fst = whoN.take m ∧ 1 ≤ m ∧ m ≤ 3 ∧ (∀ p ∈ ps, p.2 ∈ hallN :: rest) ∧
      (evSS con ((evC tab con TD fu) (n + 2)) TD fu [some (false, .hnd k), some (false, .int high), some (false, .lst ((hallN :: rest).map .str)), none, none, none, none, none, none, none] awR st).out = .ok (Wr.d ⟨sortBx (⟨hallN, none, lid, noneN⟩ :: bs), ps⟩) (st.set k (dieH a b)) := by
  obtain ⟨r1, a1, b1, h10, h11, e1⟩ := s_roll' (n := n) (con := con) (TD := TD) (fu := fu) (many := 2) h39 h40 hk (by omega) (by omega)
  obtain ⟨lid, l1, l2⟩ := idx_pick (l := lids) (r := r1) h10 (by simpa [lids] using h11)
  have l2 : ∀ st, idxD st (.lst [.str [111, 112, 101, 110], .str [115, 104, 117, 116]]) (.int r1) = some (.str lid) := l2
  simp only [idx_lst, List.length_map, List.length_cons, List.length_nil, Nat.reduceAdd] at l2
  obtain ⟨bs, a2, b2, y5, y6, y7, y8, y9, f1, f2, f3⟩ := aw_loop (n := n) (con := con) (TD := TD) (fu := fu) h39 h40 (k := k) (high := high) (L := hallN :: rest) (x4 := none) (by simp; omega) rest 0 (st.set k (dieH a1 b1)) [Bx.d ⟨hallN, none, lid, noneN⟩] none none none none none (hk.set a1 b1) (by simp; omega) (by simp; omega)
  simp only [List.set_set] at f3
  have hk2 := hk.set a2 b2
  obtain ⟨r3, a3, b3, h30, h31, e3⟩ := s_roll' (n := n) (con := con) (TD := TD) (fu := fu) (many := 3) h39 h40 hk2 (by omega) (by omega)
  simp only [List.set_set] at e3
  have hw : (whoN.take (1 + r3).toNat).length ≤ 3 := by simp [whoN]; omega
  obtain ⟨ps, a4, b4, z5, g1, g2, g3⟩ := aw_who (n := n) (con := con) (TD := TD) (fu := fu) h39 h40 (k := k) (high := high) (L := hallN :: rest) (l := .lst ([Bx.d ⟨hallN, none, lid, noneN⟩] ++ bs.map Bx.d)) (x6 := y6) (x7 := y7) (x8 := y8) (x9 := y9) (by simp; omega) (by simp) (whoN.take (1 + r3).toNat) (st.set k (dieH a3 b3)) [] y5 (hk.set a3 b3) (by simp at hw ⊢; omega)
  simp only [List.set_set] at g3
  refine ⟨lid, bs, ps, (1 + r3).toNat, a4, b4, List.mem_of_getElem? l1, f1, f2, g1, by omega, by omega, g2, ?_⟩
  have k1 : evI con ((evC tab con TD fu) (n + 2)) TD (awE k high (hallN :: rest) [Bx.d ⟨hallN, none, lid, noneN⟩] none none none none none none) (.enum (.slc (.var 2) (.int 1) .non)) (st.set k (dieH a1 b1)) = .ok (enumD 0 (rest.map .str)) (st.set k (dieH a1 b1)) := by
    unfold awE
    simp_arith [chkP, guardP_true, isNonE, List.map_cons, slc_lst1, isTup]
  have k2 : ∀ x3 x4 x5 x6 x7 x8 x9, evI con ((evC tab con TD fu) (n + 2)) TD [some (false, .hnd k), some (false, .int high), some (false, .lst ((hallN :: rest).map .str)), x3, x4, x5, x6, x7, x8, x9] (.seq (.slc (.lst (.cons (.str [97, 110, 110]) (.cons (.str [98, 111, 98]) (.cons (.str [99, 121]) .nil)))) .non (.op .add (.int 1) (.call 40 (.cons (.var 0) (.cons (.int 3) .nil)))))) (st.set k (dieH a2 b2)) = .ok ((whoN.take (1 + r3).toNat).map .str) (st.set k (dieH a3 b3)) := fun x3 x4 x5 x6 x7 x8 x9 => by
    simp_arith [chkP, guardP_true, isNonE, add_int, e3, slc_lstN (show 0 ≤ 1 + r3 by omega)]
    rw [List.map_take]; rfl
  have s1 : evS con ((evC tab con TD fu) (n + 2)) TD fu [some (false, .hnd k), some (false, .int high), some (false, .lst ((hallN :: rest).map .str)), none, none, none, none, none, none, none] (.setO 3 (.lst (.cons (.tup (.cons (.str [104, 97, 108, 108]) (.cons .non (.cons (.op .idx (.lst (.cons (.str [111, 112, 101, 110]) (.cons (.str [115, 104, 117, 116]) .nil))) (.call 40 (.cons (.var 0) (.cons (.int 2) .nil)))) (.cons (.str [110, 111, 110, 101]) .nil))))) .nil))) st
      = .nx (awE k high (hallN :: rest) [Bx.d ⟨hallN, none, lid, noneN⟩] none none none none none none) (st.set k (dieH a1 b1)) := by
    simp_arith [e1, l2 st]
    rfl
  unfold awR
  rw [evSS_cons, s1, RS.bind_nx, evSS_cons, evS_for, k1, R.bindS_ok, f3, RS.bind_nx, evSS_cons, evS_setO, evE_lst, evEs_nil]
  simp only [R.bind_ok, R.bindS_ok, isOwnD]
  have s2 : awE k high (hallN :: rest) ([Bx.d ⟨hallN, none, lid, noneN⟩] ++ bs.map Bx.d) none y5 y6 y7 y8 y9 = [some (false, .hnd k), some (false, .int high), some (false, .lst ((hallN :: rest).map .str)), some (true, .lst ([Bx.d ⟨hallN, none, lid, noneN⟩] ++ bs.map Bx.d)), none, y5, y6, y7, y8, y9] := rfl
  rw [s2]
  simp only [List.length_cons, List.length_nil, Nat.reduceAdd, Nat.reduceLT, decide_true, Bool.and_true, if_true, RS.bind_nx, List.set_cons_succ, List.set_cons_zero]
  rw [evSS_cons, evS_for, k2, R.bindS_ok]
  have s3 : ([some (false, .hnd k), some (false, .int high), some (false, .lst ((hallN :: rest).map .str)), some (true, .lst ([Bx.d ⟨hallN, none, lid, noneN⟩] ++ bs.map Bx.d)), some (true, .lst []), y5, y6, y7, y8, y9] : EvEnv) = awF k high (hallN :: rest) (.lst ([Bx.d ⟨hallN, none, lid, noneN⟩] ++ bs.map Bx.d)) [] y5 y6 y7 y8 y9 := rfl
  rw [s3, g3, RS.bind_nx]
  unfold awF
  have e9 : [Bx.d ⟨hallN, none, lid, noneN⟩] ++ bs.map Bx.d = (⟨hallN, none, lid, noneN⟩ :: bs : List Bx).map Bx.d := rfl
  rw [e9]
  simp_arith [skeyK_lst, sortK_bx, List.nil_append, List.map_map]
  rfl
def pr (b : Bx) : Nm × Option Nm := (b.nm, b.out)
abbrev Sk := List (Nm × Option Nm)
def skels : List Sk :=
  [[(hallN, none)], [(binN, some hallN), (hallN, none)], [(binN, some hallN), (crateN, some hallN), (hallN, none)], [(binN, some hallN), (crateN, some binN), (hallN, none)],
   [(binN, some hallN), (crateN, some hallN), (drumN, some hallN), (hallN, none)], [(binN, some hallN), (crateN, some hallN), (drumN, some binN), (hallN, none)], [(binN, some hallN), (crateN, some hallN), (drumN, some crateN), (hallN, none)],
   [(binN, some hallN), (crateN, some binN), (drumN, some hallN), (hallN, none)], [(binN, some hallN), (crateN, some binN), (drumN, some binN), (hallN, none)], [(binN, some hallN), (crateN, some binN), (drumN, some crateN), (hallN, none)]]
structure WOk (w : Wr) : Prop where
  sk : w.bs.map pr ∈ skels
  lid : ∀ b ∈ w.bs, b.lid ∈ lids
  win : ∀ b ∈ w.bs, b.win ∈ wins
  who : ∃ m, 1 ≤ m ∧ m ≤ 3 ∧ w.ws.map Prod.fst = whoN.take m
  pl : ∀ p ∈ w.ws, p.2 ∈ w.bs.map Bx.nm
theorem mem_insBx {b c : Bx} : ∀ {l : List Bx}, c ∈ insBx b l ↔ c = b ∨ c ∈ l
  | [] => by simp [insBx]
  | d :: l => by
    simp only [insBx]
    split
    · simp only [List.mem_cons, mem_insBx (l := l)]
      constructor <;> (intro h; rcases h with h | h | h <;> simp [h])
    · simp
theorem mem_sortBx {c : Bx} : ∀ {l : List Bx}, c ∈ sortBx l ↔ c ∈ l
  | [] => by simp [sortBx]
  | b :: l => by simp [sortBx, mem_insBx, mem_sortBx (l := l)]
theorem rows_sk {lid : Nm} {rest : List Nm} {bs : List Bx} (h1 : bs.map Bx.nm = rest) (h2 : Rows (hallN :: rest) 0 bs) (h3 : ∃ j, j ≤ 3 ∧ rest = [binN, crateN, drumN].take j) : (sortBx (⟨hallN, none, lid, noneN⟩ :: bs)).map pr ∈ skels := by
  obtain ⟨j, hj, rfl⟩ := h3
  match j, hj with
  | 0, _ =>
    have : bs = [] := by simpa using h1
    subst this
    show [(hallN, none)] ∈ skels
    decide
  | 1, _ =>
    match bs, h1 with
    | [⟨n1, o1, l1, w1⟩], h1 =>
      simp at h1
      subst h1
      obtain ⟨p1, m1, e1⟩ := h2.out 0 _ rfl
      simp at m1 e1
      subst m1 e1
      show [(binN, some hallN), (hallN, none)] ∈ skels
      decide
  | 2, _ =>
    match bs, h1 with
    | [⟨n1, o1, l1, w1⟩, ⟨n2, o2, l2, w2⟩], h1 =>
      simp at h1
      obtain ⟨q1, q2⟩ := h1
      subst q1 q2
      obtain ⟨p1, m1, e1⟩ := h2.out 0 _ rfl
      obtain ⟨p2, m2, e2⟩ := h2.out 1 _ rfl
      simp at m1 e1 m2 e2
      subst m1 e1 e2
      rcases m2 with rfl | rfl
      · show [(binN, some hallN), (crateN, some hallN), (hallN, none)] ∈ skels
        decide
      · show [(binN, some hallN), (crateN, some binN), (hallN, none)] ∈ skels
        decide
  | 3, _ =>
    match bs, h1 with
    | [⟨n1, o1, l1, w1⟩, ⟨n2, o2, l2, w2⟩, ⟨n3, o3, l3, w3⟩], h1 =>
      simp at h1
      obtain ⟨q1, q2, q3⟩ := h1
      subst q1 q2 q3
      obtain ⟨p1, m1, e1⟩ := h2.out 0 _ rfl
      obtain ⟨p2, m2, e2⟩ := h2.out 1 _ rfl
      obtain ⟨p3, m3, e3⟩ := h2.out 2 _ rfl
      simp at m1 e1 m2 e2 m3 e3
      subst m1 e1 e2 e3
      rcases m2 with rfl | rfl
      · rcases m3 with rfl | rfl | rfl
        · show [(binN, some hallN), (crateN, some hallN), (drumN, some hallN), (hallN, none)] ∈ skels
          decide
        · show [(binN, some hallN), (crateN, some hallN), (drumN, some binN), (hallN, none)] ∈ skels
          decide
        · show [(binN, some hallN), (crateN, some hallN), (drumN, some crateN), (hallN, none)] ∈ skels
          decide
      · rcases m3 with rfl | rfl | rfl
        · show [(binN, some hallN), (crateN, some binN), (drumN, some hallN), (hallN, none)] ∈ skels
          decide
        · show [(binN, some hallN), (crateN, some binN), (drumN, some binN), (hallN, none)] ∈ skels
          decide
        · show [(binN, some hallN), (crateN, some binN), (drumN, some crateN), (hallN, none)] ∈ skels
          decide
theorem wok_of {lid : Nm} {rest : List Nm} {bs : List Bx} {ps : List (Nm × Nm)} {m : Nat} (hl : lid ∈ lids) (h1 : bs.map Bx.nm = rest) (h2 : Rows (hallN :: rest) 0 bs) (h3 : ∃ j, j ≤ 3 ∧ rest = [binN, crateN, drumN].take j) (hp : ps.map Prod.fst = whoN.take m) (m1 : 1 ≤ m) (m3 : m ≤ 3) (hq : ∀ p ∈ ps, p.2 ∈ hallN :: rest) :
    WOk ⟨sortBx (⟨hallN, none, lid, noneN⟩ :: bs), ps⟩ where
  sk := rows_sk h1 h2 h3
  lid := fun b hb => by
    rcases List.mem_cons.mp (mem_sortBx.mp hb) with rfl | hb
    · exact hl
    · exact h2.lid b hb
  win := fun b hb => by
    rcases List.mem_cons.mp (mem_sortBx.mp hb) with rfl | hb
    · show noneN ∈ wins
      decide
    · exact h2.win b hb
  who := ⟨m, m1, m3, hp⟩
  pl := fun p hp => by
    rcases List.mem_cons.mp (hq p hp) with e | e
    · exact List.mem_map.mpr ⟨⟨hallN, none, lid, noneN⟩, mem_sortBx.mpr (by simp), e.symm⟩
    · rw [← h1] at e
      obtain ⟨b, hb, e⟩ := List.mem_map.mp e
      exact List.mem_map.mpr ⟨b, mem_sortBx.mpr (by simp [hb]), e⟩
theorem s_any_world_v2 (h39 : Is tab 39 3 2 b_law_drawn) (h40 : Is tab 40 3 2 b_law_roll) (h : Is tab 44 10 2 b_law_any_world) {k : Nat} {high : Int} (hk : IsDie st k) (h0 : 0 < high) (h4 : high ≤ 4) : ∃ (w : Wr) (a b : Int), WOk w ∧ (evC tab con TD fu) (n + 3) 44 [.hnd k, .int high] st = .ok w.d (st.set k (dieH a b)) := by
  obtain ⟨r, a0, b0, hr0, hr1, e0⟩ := s_roll' (n := n) (con := con) (TD := TD) (fu := fu) (many := high) h39 h40 hk h0 (by omega)
  have hj : r.toNat ≤ 3 := by omega
  obtain ⟨lid, bs, ps, m, a, b, g1, g2, g3, g4, g5, g6, g7, g8⟩ := aw_main (n := n) (con := con) (TD := TD) (fu := fu) (high := high) (rest := [binN, crateN, drumN].take r.toNat) h39 h40 (by simp; omega) (hk.set a0 b0)
  refine ⟨_, a, b, wok_of g1 g2 g3 ⟨r.toNat, hj, rfl⟩ g4 g5 g6 g7, ?_⟩
  simp only [List.set_set] at g8
  rw [← g8, evC_succ h]
  have s1 : evS con ((evC tab con TD fu) (n + 2)) TD fu [some (false, .hnd k), some (false, .int high), none, none, none, none, none, none, none, none] (.set (.nm 2) (.slc (.lst (.cons (.str [104, 97, 108, 108]) (.cons (.str [98, 105, 110]) (.cons (.str [99, 114, 97, 116, 101]) (.cons (.str [100, 114, 117, 109]) .nil))))) .non (.op .add (.int 1) (.call 40 (.cons (.var 0) (.cons (.var 1) .nil)))))) st
      = .nx [some (false, .hnd k), some (false, .int high), some (false, .lst ((hallN :: [binN, crateN, drumN].take r.toNat).map .str)), none, none, none, none, none, none, none] (st.set k (dieH a0 b0)) := by
    simp_arith [chkP, guardP_true, isNonE, add_int, e0, slc_lstN (show 0 ≤ 1 + r by omega)]
    have : (1 + r).toNat = r.toNat + 1 := by omega
    rw [this, List.take_succ_cons, List.map_cons, List.map_take]
    rfl
  show (evSS con ((evC tab con TD fu) (n + 2)) TD fu [some (false, .hnd k), some (false, .int high), none, none, none, none, none, none, none, none] (.cons (.set (.nm 2) (.slc (.lst (.cons (.str [104, 97, 108, 108]) (.cons (.str [98, 105, 110]) (.cons (.str [99, 114, 97, 116, 101]) (.cons (.str [100, 114, 117, 109]) .nil))))) .non (.op .add (.int 1) (.call 40 (.cons (.var 0) (.cons (.var 1) .nil)))))) awR) st).out = _
  rw [evSS_cons, s1, RS.bind_nx]
end
end Ev.Mr
namespace Ev.Mr
local macro_rules | `(tactic| simp_arith [$ts,*]) => `(tactic| simp only [op2_add, op2_sub, op2_mul, op2_fdiv, op2_mod, op2_eq, op2_ne, op2_lt, op2_le, op2_gt, op2_ge, op2_is, op2_isnot, op2_in, op2_notin, op2_idx, bD_some, nD_some, ltD_int, ltD_str, leD_int, bi_len, bi_all, bi_dict, bi_dictT, bi_sorted, bi_tuple, bi_list, bi_max, bi_min, len_tup, len_lst, len_dk, seqI_tup, seqI_lst, seqP_tup, seqP_lst, seqs_tup, seqs_lst, isi_str_str, isi_tup_tup, is_non_non, is_str_non, is_lst_non, is_tup_non, idx_tup, idx_lst, idx_dkS, in_str, obind_some, omap_some, andK_bl, orK_bl, notK_bl, iteK_bl, chnK_bl, iffK_bl, evE_var, varK_some, evE_non, evE_bl, evE_int, evE_str, evE_glob, evE_tup, evE_lst, evE_lstH, evE_dct, evE_op, evE_chn, evE_and2, evE_or2, evE_not, evE_ife, evE_call, evE_bi, evE_isi, evE_slc, evE_rev, revK_lst, evE_skey, skeyK_lst, evE_told, evE_bor, borK_bl, borK_int, frz_nil, frz_none, frz_some, evE_idxO, idxOK_some, evEs_nil, evEs_cons, evI_seq, evI_enum, evI_zip, evI_range, evI_own, ownK_some, bndK_some, evS_set, evS_setO, own_lst, own_dk, evS_par, evPar_nil, evPar_cons, setPar_nil, setPar_cons, evFor_nil, evS_app, appK_some, evS_pop, evS_put, evS_putH, evS_exp, evS_ret, evS_raise, evS_iff, evS_for, evS_whl, evS_frz, frzK_some, evSS_nil, evSS_cons, out_nx, out_rt, out_exc, bindS_exc, R.bind_ok, R.bindS_ok, RS.bind_nx, RS.bind_rt, RS.bind_exc, R.bind_exc, bindS_exc, liftO_some, ite_and, ite_or, List.getElem?_cons_zero, List.getElem?_cons_succ, List.length_map, List.length_cons, List.length_nil, bindT, List.set_cons_zero, List.set_cons_succ, allB_map, allT, if_true, if_false, reduceCtorEq, Nat.reduceAdd, Nat.reduceLT, ↓reduceIte, decide_true, decide_false, Bool.and_true, Bool.true_and, Bool.false_and, Bool.and_false, Bool.or_false, Bool.false_or, Bool.or_true, Bool.true_or, Bool.not_true, Bool.not_false, Bool.false_eq_true, $ts,*])
/-! ### shapes -/
def outOfP : Sk → Nm → Option (Option Nm)
  | [], _ => none
  | p :: r, n => if eqN p.1 n then some p.2 else outOfP r n
def overP (sk : Sk) : Nat → Nm → List Nm → Option (Option (List Nm))
  | 0, _, _ => none
  | f + 1, n, found => match outOfP sk n with
    | none => none
    | some none => some (some found)
    | some (some m) => if memS m found || decide (sk.length < found.length) then some none else overP sk f m (found ++ [m])
def upP (sk : Sk) : Nat → Nm → List Nm → Option (List Nm)
  | 0, _, _ => none
  | f + 1, n, found => match outOfP sk n with
    | none => none
    | some none => some found
    | some (some m) => upP sk f m (found ++ [m])
theorem outOf_P {n : Nm} : ∀ {bs : List Bx}, outOf bs n = outOfP (bs.map pr) n
  | [] => rfl
  | b :: bs => by
    show (if eqN b.nm n then some b.out else outOf bs n) = if eqN b.nm n then some b.out else outOfP (bs.map pr) n
    rw [outOf_P (bs := bs)]
theorem overM_P {bs : List Bx} : ∀ (k : Nat) (n : Nm) (f : List Nm), overM bs k n f = overP (bs.map pr) k n f
  | 0, _, _ => rfl
  | k + 1, n, f => by
    unfold overM overP
    rw [outOf_P]
    cases outOfP (bs.map pr) n with
    | none => rfl
    | some o =>
      cases o with
      | none => rfl
      | some m =>
        dsimp only
        rw [overM_P k, List.length_map]
def okO : Option Nm → Bool
  | none => true
  | some s => okS s
def eqO2 (o : Option Nm) (s : Nm) : Bool := match o with
  | some x => eqN x s
  | none => false
def isSS : Option (Option (List Nm)) → Bool
  | some (some _) => true
  | _ => false
def factsK (sk : Sk) : Bool :=
  decide (sk.length ≤ 1000) && (sk.map Prod.fst).all (fun s => decide (s.length ≤ 1000)) && rowsM 6 (sk.map Prod.fst) && !sk.isEmpty && sk.all (fun p => okS p.1 && okO p.2) && sk.all (fun p => match p.2 with | none => true | some o => memS o (sk.map Prod.fst))
    && Nat.beq (sk.filter (fun p => p.2.isNone)).length 1 && distN (sk.map Prod.fst) && sk.all (fun p => isSS (overP sk 100 p.1 [])) && sk.all (fun p => sk.all fun q => !(eqO2 p.2 q.1 && eqO2 q.2 p.1))
theorem skels_facts : skels.all factsK = true := by decide +kernel
structure FactsK (sk : Sk) : Prop where
  len : sk.length ≤ 1000
  sz : ∀ s ∈ sk.map Prod.fst, s.length ≤ 1000
  rows : rowsM 6 (sk.map Prod.fst) = true
  ne : sk ≠ []
  ok : ∀ p ∈ sk, okS p.1 = true ∧ okO p.2 = true
  outs : ∀ p ∈ sk, ∀ o, p.2 = some o → memS o (sk.map Prod.fst) = true
  one : (sk.filter fun p => p.2.isNone).length = 1
  dist : distN (sk.map Prod.fst) = true
  ov : ∀ p ∈ sk, ∃ l, overP sk 100 p.1 [] = some (some l)
  no2 : ∀ p ∈ sk, ∀ q ∈ sk, eqO2 p.2 q.1 = true → eqO2 q.2 p.1 = true → False
theorem factsK_ok {sk : Sk} (h : factsK sk = true) : FactsK sk := by
  unfold factsK at h
  simp only [Bool.and_eq_true, List.all_eq_true, decide_eq_true_eq, Bool.not_eq_true', Nat.beq_eq_true_eq] at h
  obtain ⟨⟨⟨⟨⟨⟨⟨⟨⟨h1, h2⟩, h3⟩, h4⟩, h5⟩, h6⟩, h7⟩, h8⟩, h9⟩, h10⟩ := h
  refine ⟨h1, h2, h3, fun e => (by subst e; cases h4), h5, fun p hp o ho => by have := h6 p hp; rw [ho] at this; exact this, Nat.eq_of_beq_eq_true h7, h8, fun p hp => ?_, fun p hp q hq e1 e2 => ?_⟩
  · have := h9 p hp
    cases q : overP sk 100 p.1 [] with
    | none => rw [q] at this; cases this
    | some o =>
      cases o with
      | none => rw [q] at this; cases this
      | some l => exact ⟨l, rfl⟩
  · have := h10 p hp q hq
    rw [e1, e2] at this
    cases this
theorem lids_ok {s : Nm} (h : s ∈ lids) : okS s = true ∧ memS s lids = true := by
  refine ⟨?_, memS_iff.mpr h⟩
  exact List.all_eq_true.mp (show lids.all okS = true by decide) s h
theorem wins_ok {s : Nm} (h : s ∈ wins) : okS s = true ∧ memS s wins = true := by
  refine ⟨?_, memS_iff.mpr h⟩
  exact List.all_eq_true.mp (show wins.all okS = true by decide) s h
theorem okDs_of {α : Type} {f : α → D} {k : Nat} : ∀ {xs : List α}, (∀ x ∈ xs, okD (f x) k = true) → okDs (xs.map f) k = true
  | [], _ => rfl
  | x :: xs, h => by
    simp only [List.map_cons, okDs, h x (by simp), okDs_of (xs := xs) fun y hy => h y (by simp [hy])]; rfl
theorem okD_bx {b : Bx} {k : Nat} (h1 : okS b.nm = true) (h2 : okO b.out = true) (h3 : okS b.lid = true) (h4 : okS b.win = true) : okD b.d (k + 1) = true := by
  show (okD (.str b.nm) k && (okD (oD b.out) k && (okD (.str b.lid) k && (okD (.str b.win) k && true)))) = true
  have e1 : okD (.str b.nm) k = okS b.nm := by cases k <;> rfl
  have e3 : okD (.str b.lid) k = okS b.lid := by cases k <;> rfl
  have e4 : okD (.str b.win) k = okS b.win := by cases k <;> rfl
  have e2 : okD (oD b.out) k = true := by
    cases q : b.out with
    | none => cases k <;> rfl
    | some o =>
      rw [q] at h2
      have : okS o = true := h2
      cases k <;> exact this
  rw [e1, e2, e3, e4, h1, h3, h4]; rfl
theorem WOk.facts {w : Wr} (h : WOk w) : FactsK (w.bs.map pr) := factsK_ok (List.all_eq_true.mp skels_facts _ h.sk)
theorem fst_pr (bs : List Bx) : (bs.map pr).map Prod.fst = bs.map Bx.nm := by rw [List.map_map]; rfl
theorem filter_pr (bs : List Bx) : ((bs.map pr).filter fun p => p.2.isNone).length = (bs.filter fun b => b.out.isNone).length := by
  rw [List.filter_map, List.length_map]; rfl
theorem who_rows : ∀ m, 1 ≤ m → m ≤ 3 → rowsM 4 (whoN.take m) = true
  | 0, h, _ => by omega
  | 1, _, _ => by decide
  | 2, _, _ => by decide
  | 3, _, _ => by decide
  | _ + 4, _, h => by omega
theorem WOk.good {w : Wr} (h : WOk w) : GoodW 100 w := by
  have F := h.facts
  have n1 := fst_pr w.bs
  obtain ⟨m, m1, m3, hm⟩ := h.who
  have mem : ∀ b ∈ w.bs, pr b ∈ w.bs.map pr := fun b hb => List.mem_map.mpr ⟨b, hb, rfl⟩
  exact {
    len := by have := F.len; rwa [List.length_map] at this
    sz := fun b hb => F.sz _ (by rw [n1]; exact List.mem_map.mpr ⟨b, hb, rfl⟩)
    rows := by have := F.rows; rwa [n1] at this
    ne := fun e => F.ne (by rw [e]; rfl)
    okd := okDs_of fun b hb => okD_bx (F.ok _ (mem b hb)).1 (F.ok _ (mem b hb)).2 (lids_ok (h.lid b hb)).1 (wins_ok (h.win b hb)).1
    lw := fun b hb => ⟨(lids_ok (h.lid b hb)).2, (wins_ok (h.win b hb)).2⟩
    outs := fun b hb o ho => by have := F.outs _ (mem b hb) o ho; rwa [n1] at this
    one := by rw [← filter_pr]; exact F.one
    dist := by have := F.dist; rwa [n1] at this
    ov := fun b hb => by
      obtain ⟨l, hl⟩ := F.ov _ (mem b hb)
      exact ⟨l, by rw [overM_P]; exact hl⟩
    wlen := by
      have : (w.ws.map Prod.fst).length ≤ 3 := by rw [hm]; simp [whoN]; omega
      rw [List.length_map] at this; omega
    wsz := fun p hp => by
      have : p.1 ∈ whoN := by
        have : p.1 ∈ w.ws.map Prod.fst := List.mem_map.mpr ⟨p, hp, rfl⟩
        rw [hm] at this
        exact List.mem_of_mem_take this
      have := List.all_eq_true.mp (show whoN.all (fun s => decide (s.length ≤ 1000)) = true by decide) _ this
      simpa using this
    wrows := by rw [hm]; exact who_rows m m1 m3
    wpl := fun p hp => memS_iff.mpr (h.pl p hp) }
section
variable {tab : Nat → Option FD} {con : Nat → Option D} {TD : Nat → Nat → Option D} {fu n : Nat} {st : HSt}
/-! ### the law's own look -/
theorem s_names (h : Is tab 55 2 1 b_law_names) {w : Wr} (hl : w.bs.length ≤ 1000) : (evC tab con TD fu) (n + 1) 55 [w.d] st = .ok (.lst (w.ns.map .str)) st := by
  rw [evC_succ h]
  show (evSS con ((evC tab con TD fu) n) TD fu [some (false, w.d), none] b_law_names st).out = _
  unfold b_law_names
  have k1 : evE con ((evC tab con TD fu) n) TD [some (false, w.d), none] (.lc [1] (.nm 1) (.seq (.op .idx (.var 0) (.int 0))) (.op .idx (.var 1) (.int 0))) st = .ok (.lst (w.ns.map .str)) st := by
    unfold Wr.ns
    rw [List.map_map]
    refine evE_lc (ds := w.bs.map Bx.d) (by simp_arith [idxW0]) (by simpa using hl) (evLC_map fun b hb => ⟨[some (false, w.d), some (false, b.d)], by rfl, by rfl, ?_⟩)
    simp_arith [idxB0]; rfl
  simp_arith [k1]
theorem pairsK_out : ∀ {bs : List Bx}, pairsK (bs.map fun b => .tup [.str b.nm, oD b.out]) = some (bs.map fun b => (.inr b.nm, oD b.out))
  | [] => rfl
  | b :: bs => by
    show (keyD (.str b.nm)).bind (fun k => (pairsK (bs.map fun b => .tup [.str b.nm, oD b.out])).map ((k, oD b.out) :: ·)) = _
    rw [pairsK_out (bs := bs)]; rfl
theorem putAll_out : ∀ {bs pre : List Bx}, distN (bs.map Bx.nm) = true → (∀ x ∈ bs, memS x.nm (pre.map Bx.nm) = false) → putAll (bs.map fun b => (.inr b.nm, oD b.out)) (outK pre, outV pre) = (outK (pre ++ bs), outV (pre ++ bs))
  | [], pre, _, _ => by simp [putAll]
  | x :: bs, pre, hd, hn => by
    simp only [List.map_cons, distN, Bool.and_eq_true, Bool.not_eq_true'] at hd
    have hp : putD (outK pre) (outV pre) (.inr x.nm) (oD x.out) = (outK (pre ++ [x]), outV (pre ++ [x])) := by
      unfold putD
      rw [hasK_outK, hn x (by simp)]
      simp [outK, outV]
    have ih := putAll_out (bs := bs) (pre := pre ++ [x]) hd.2 (fun y hy => by
      rw [List.map_append, memS_append, hn y (by simp [hy])]
      show (false || (eqN x.nm y.nm || false)) = false
      cases q : eqN x.nm y.nm with
      | false => rfl
      | true =>
        rw [eqN_iff] at q
        have : memS x.nm (bs.map Bx.nm) = true := memS_iff.mpr (by rw [q]; exact List.mem_map.mpr ⟨y, hy, rfl⟩)
        rw [hd.1] at this; cases this)
    show putAll (bs.map fun b => (.inr b.nm, oD b.out)) (putD (outK pre) (outV pre) (.inr x.nm) (oD x.out)) = _
    rw [hp, ih, List.append_assoc]; rfl
theorem s_outer (h : Is tab 56 2 1 b_law_outer) {w : Wr} (hl : w.bs.length ≤ 1000) (hd : distN (w.bs.map Bx.nm) = true) : (evC tab con TD fu) (n + 1) 56 [w.d] st = .ok (outD w.bs) st := by
  rw [evC_succ h]
  show (evSS con ((evC tab con TD fu) n) TD fu [some (false, w.d), none] b_law_outer st).out = _
  unfold b_law_outer
  have k1 : evE con ((evC tab con TD fu) n) TD [some (false, w.d), none] (.lc [1] (.nm 1) (.seq (.op .idx (.var 0) (.int 0))) (.tup (.cons (.op .idx (.var 1) (.int 0)) (.cons (.op .idx (.var 1) (.int 1)) .nil)))) st = .ok (.lst (w.bs.map fun b => .tup [.str b.nm, oD b.out])) st := by
    refine evE_lc (ds := w.bs.map Bx.d) (by simp_arith [idxW0]) (by simpa using hl) (evLC_map fun b hb => ⟨[some (false, w.d), some (false, b.d)], by rfl, by rfl, ?_⟩)
    simp_arith [idxB0, idxB1]
  have k2 := putAll_out (bs := w.bs) (pre := []) hd (fun _ _ => rfl)
  have k2 : putAll (w.bs.map fun b => (.inr b.nm, oD b.out)) ([], []) = (outK w.bs, outV w.bs) := k2
  simp_arith [k1, pairsK_out, k2]
  rfl
def cuC : IE := .op .isnot (.op .idx (.var 2) (.var 1)) .non
def cuB : SS := .cons (.set (.nm 1) (.op .idx (.var 2) (.var 1))) (.cons (.app 3 (.var 1)) .nil)
def cuE (w : D) (bs : List Bx) (n : Nm) (found : List Nm) : EvEnv := [some (false, w), some (false, .str n), some (false, outD bs), some (true, .lst (found.map .str))]
theorem whl_up {C : CT} {w : D} {bs : List Bx} : ∀ (k : Nat) (nm : Nm) (found r : List Nm), found.length + k ≤ 1000 → upP (bs.map pr) k nm found = some r → ∃ e,
    evWhl (fun env st => evE con C TD env cuC st) (fun env st => evSS con C TD fu env cuB st) k (cuE w bs nm found) st = .nx (cuE w bs e r) st
  | 0, _, _, _, _, h => by cases h
  | k + 1, nm, found, r, hl, h => by
    unfold upP at h
    rw [← outOf_P] at h
    rw [evWhl_succ]
    cases ho : outOf bs nm with
    | none => rw [ho] at h; cases h
    | some o =>
      rw [ho] at h
      have c1 : evE con C TD (cuE w bs nm found) cuC st = .ok (.bl o.isSome) st := by
        unfold cuC cuE
        simp_arith [idx_out, ho, isnot_oD]
      rw [c1]
      cases o with
      | none =>
        cases h
        exact ⟨nm, rfl⟩
      | some m =>
        dsimp only at h
        have hlt : found.length < line := by unfold line; omega
        have c2 : evSS con C TD fu (cuE w bs nm found) cuB st = .nx (cuE w bs m (found ++ [m])) st := by
          unfold cuB cuE
          simp_arith [idx_out, ho, oD, if_pos hlt, List.map_append, List.map_cons, List.map_nil]
        obtain ⟨e, ih⟩ := whl_up (C := C) (w := w) k m (found ++ [m]) r (by simp; omega) h
        refine ⟨e, ?_⟩
        simp only [R.bindS_ok, iffK_bl, Option.isSome, if_true, c2, RS.bind_nx, ih]
theorem s_chain_up (h56 : Is tab 56 2 1 b_law_outer) (h : Is tab 57 4 2 b_law_chain_up) (hf : fu ≤ 900) {w : Wr} (hl : w.bs.length ≤ 1000) (hd : distN (w.bs.map Bx.nm) = true) {s : Nm} {r : List Nm} (hr : upP (w.bs.map pr) fu s [] = some r) : (evC tab con TD fu) (n + 2) 57 [w.d, .str s] st = .ok (.lst (r.map .str)) st := by
  rw [evC_succ h]
  show (evSS con ((evC tab con TD fu) (n + 1)) TD fu [some (false, w.d), some (false, .str s), none, none] (.cons (.par [2, 3] [(false, (.call 56 (.cons (.var 0) .nil))), (true, (.lst .nil))]) (.cons (.whl cuC cuB) (.cons (.frz 3) (.cons (.ret (.var 3)) .nil)))) st).out = _
  obtain ⟨e, key⟩ := whl_up (con := con) (C := (evC tab con TD fu) (n + 1)) (TD := TD) (fu := fu) (st := st) (w := w.d) fu s [] r (by simpa using by omega) hr
  have s1 : evS con ((evC tab con TD fu) (n + 1)) TD fu [some (false, w.d), some (false, .str s), none, none] (.par [2, 3] [(false, (.call 56 (.cons (.var 0) .nil))), (true, (.lst .nil))]) st = .nx (cuE w.d w.bs s []) st := by
    simp_arith [s_outer h56 hl hd]
    rfl
  rw [evSS_cons, s1, RS.bind_nx, evSS_cons, evS_whl, key, RS.bind_nx]
  unfold cuE
  simp_arith []
def sightB (b : Bx) : List (Nm × Nm) := match b.out with
  | none => []
  | some o => (if inB b = true then [(o, b.nm)] else []) ++ (if outB b = true then [(b.nm, o)] else [])
def sightsM (bs : List Bx) : List (Nm × Nm) := bs.flatMap sightB
def siB : SS := .cons (.iff (.and2 (.op .isnot (.var 3) .non) (.or2 (.op .eq (.var 4) (.str [111, 112, 101, 110])) (.op .in_ (.var 5) (.tup (.cons (.str [105, 110]) (.cons (.str [98, 111, 116, 104]) .nil)))))) (.cons (.app 1 (.tup (.cons (.var 3) (.cons (.var 2) .nil)))) .nil) .nil)
  (.cons (.iff (.and2 (.op .isnot (.var 3) .non) (.or2 (.op .eq (.var 4) (.str [111, 112, 101, 110])) (.op .in_ (.var 5) (.tup (.cons (.str [111, 117, 116]) (.cons (.str [98, 111, 116, 104]) .nil)))))) (.cons (.app 1 (.tup (.cons (.var 2) (.cons (.var 3) .nil)))) .nil) .nil) .nil)
def siE (w : D) (l : List D) (x2 x3 x4 x5 : Sl) : EvEnv := [some (false, w), some (true, .lst l), x2, x3, x4, x5]
theorem si_body {C : CT} {w : D} {l : List D} {b : Bx} (hl : l.length ≤ 10000) : evSS con C TD fu (siE w l (some (false, .str b.nm)) (some (false, oD b.out)) (some (false, .str b.lid)) (some (false, .str b.win))) siB st
    = .nx (siE w (l ++ (sightB b).map wD) (some (false, .str b.nm)) (some (false, oD b.out)) (some (false, .str b.lid)) (some (false, .str b.win))) st := by
  have hlt : l.length < line := by unfold line; omega
  unfold siB siE sightB
  cases ho : b.out with
  | none => simp_arith [oD, nD, is_non_non, Option.map_some, List.append_nil, List.map_nil]
  | some o =>
    cases q1 : inB b with
    | true =>
      have q1' : (eqN b.lid [111, 112, 101, 110] || (eqN [105, 110] b.win || eqN [98, 111, 116, 104] b.win)) = true := q1
      have hlt2 : l.length + 1 < line := by unfold line; omega
      cases q2 : outB b with
      | true =>
        have q2' : (eqN b.lid [111, 112, 101, 110] || (eqN [111, 117, 116] b.win || eqN [98, 111, 116, 104] b.win)) = true := q2
        simp_arith [oD, nD, is_str_non, Option.map_some, eq_strs, in_tup2, q1', q2', if_pos hlt, if_pos hlt2, List.length_append]
        rw [List.append_assoc]; rfl
      | false =>
        have q2' : (eqN b.lid [111, 112, 101, 110] || (eqN [111, 117, 116] b.win || eqN [98, 111, 116, 104] b.win)) = false := q2
        simp_arith [oD, nD, is_str_non, Option.map_some, eq_strs, in_tup2, q1', q2', if_pos hlt, List.append_nil]
        rfl
    | false =>
      have q1' : (eqN b.lid [111, 112, 101, 110] || (eqN [105, 110] b.win || eqN [98, 111, 116, 104] b.win)) = false := q1
      cases q2 : outB b with
      | true =>
        have q2' : (eqN b.lid [111, 112, 101, 110] || (eqN [111, 117, 116] b.win || eqN [98, 111, 116, 104] b.win)) = true := q2
        simp_arith [oD, nD, is_str_non, Option.map_some, eq_strs, in_tup2, q1', q2', if_pos hlt, List.nil_append]
        rfl
      | false =>
        have q2' : (eqN b.lid [111, 112, 101, 110] || (eqN [111, 117, 116] b.win || eqN [98, 111, 116, 104] b.win)) = false := q2
        simp_arith [oD, nD, is_str_non, Option.map_some, eq_strs, in_tup2, q1', q2', List.append_nil, List.map_nil]
theorem sightB_len (b : Bx) : (sightB b).length ≤ 2 := by
  unfold sightB
  cases b.out with
  | none => simp
  | some o => dsimp only; cases inB b <;> cases outB b <;> simp
theorem si_loop {C : CT} {w : D} : ∀ (bs : List Bx) (l : List D) (x2 x3 x4 x5 : Sl), l.length + 2 * bs.length ≤ 10000 → ∃ y2 y3 y4 y5, evFor (fun env st => evSS con C TD fu env siB st) (.tp [.nm 2, .nm 3, .nm 4, .nm 5]) (bs.map Bx.d) (siE w l x2 x3 x4 x5) st = .nx (siE w (l ++ (sightsM bs).map wD) y2 y3 y4 y5) st
  | [], l, x2, x3, x4, x5, _ => ⟨x2, x3, x4, x5, by simp [evFor_nil, sightsM]⟩
  | b :: bs, l, x2, x3, x4, x5, h => by
    have hb := sightB_len b
    simp only [List.length_cons] at h
    obtain ⟨y2, y3, y4, y5, e⟩ := si_loop (C := C) (w := w) bs (l ++ (sightB b).map wD) (some (false, .str b.nm)) (some (false, oD b.out)) (some (false, .str b.lid)) (some (false, .str b.win)) (by simp; omega)
    refine ⟨y2, y3, y4, y5, ?_⟩
    rw [List.map_cons, evFor_cons (env' := siE w l (some (false, .str b.nm)) (some (false, oD b.out)) (some (false, .str b.lid)) (some (false, .str b.win))) (by rfl), si_body (by omega), RS.bind_nx, e]
    simp [sightsM]
theorem s_sights (h : Is tab 58 6 1 b_law_sights) {w : Wr} (hl : w.bs.length ≤ 1000) : (evC tab con TD fu) (n + 1) 58 [w.d] st = .ok (.lst ((sightsM w.bs).map wD)) st := by
  rw [evC_succ h]
  show (evSS con ((evC tab con TD fu) n) TD fu [some (false, w.d), none, none, none, none, none] (.cons (.setO 1 (.lst .nil)) (.cons (.for_ (.tp [(.nm 2), (.nm 3), (.nm 4), (.nm 5)]) (.seq (.op .idx (.var 0) (.int 0))) siB) (.cons (.frz 1) (.cons (.ret (.var 1)) .nil)))) st).out = _
  obtain ⟨y2, y3, y4, y5, e⟩ := si_loop (con := con) (C := (evC tab con TD fu) n) (TD := TD) (fu := fu) (st := st) (w := w.d) w.bs [] none none none none (by simp; omega)
  have s1 : evS con ((evC tab con TD fu) n) TD fu [some (false, w.d), none, none, none, none, none] (.setO 1 (.lst .nil)) st = .nx (siE w.d [] none none none none) st := by
    simp_arith []
    rfl
  have s2 : evI con ((evC tab con TD fu) n) TD (siE w.d [] none none none none) (.seq (.op .idx (.var 0) (.int 0))) st = .ok (w.bs.map Bx.d) st := by
    unfold siE
    simp_arith [idxW0]
  rw [evSS_cons, s1, RS.bind_nx, evSS_cons, evS_for, s2, R.bindS_ok, e, RS.bind_nx]
  unfold siE
  simp_arith [List.nil_append]
end
/-! ### what stands in the pairs -/
theorem dist_inj : ∀ {bs : List Bx}, distN (bs.map Bx.nm) = true → ∀ {a b : Bx}, a ∈ bs → b ∈ bs → a.nm = b.nm → a = b
  | [], _, a, b, ha, _, _ => by simp at ha
  | x :: bs, hd, a, b, ha, hb, e => by
    simp only [List.map_cons, distN, Bool.and_eq_true, Bool.not_eq_true'] at hd
    have no : ∀ c ∈ bs, x.nm ≠ c.nm := fun c hc e => by
      have : memS x.nm (bs.map Bx.nm) = true := memS_iff.mpr (by rw [e]; exact List.mem_map.mpr ⟨c, hc, rfl⟩)
      rw [hd.1] at this; cases this
    rcases List.mem_cons.mp ha with ea | ha'
    · rcases List.mem_cons.mp hb with eb | hb'
      · rw [ea, eb]
      · exact absurd (by rw [← ea]; exact e) (no b hb')
    · rcases List.mem_cons.mp hb with eb | hb'
      · exact absurd (by rw [← eb]; exact e.symm) (no a ha')
      · exact dist_inj hd.2 ha' hb' e
def pairIn (ps : List (Nm × Nm)) (s t : Nm) : Bool := ps.any fun p => eqN p.1 s && eqN p.2 t
theorem eqO_iff {o : Option Nm} {s : Nm} : eqO o s = true ↔ o = some s := by
  cases o with
  | none => simp [eqO]
  | some x => simp [eqO, eqN_iff]
theorem pairs_lets {bs : List Bx} (hd : distN (bs.map Bx.nm) = true) {a b : Bx} (ha : a ∈ bs) (hb : b ∈ bs) : pairIn (sightsM bs) a.nm b.nm = ((eqO b.out a.nm && inB b) || (eqO a.out b.nm && outB a)) := by
  rw [Bool.eq_iff_iff]
  unfold pairIn sightsM
  simp only [List.any_eq_true, List.mem_flatMap, Bool.and_eq_true, Bool.or_eq_true, eqN_iff, eqO_iff]
  constructor
  · rintro ⟨p, ⟨c, hc, hp⟩, e1, e2⟩
    unfold sightB at hp
    cases ho : c.out with
    | none => rw [ho] at hp; simp at hp
    | some o =>
      rw [ho] at hp
      rcases List.mem_append.mp hp with hp | hp
      · by_cases q : inB c = true
        · rw [if_pos q] at hp
          have e : p = (o, c.nm) := by simpa using hp
          subst e
          have := dist_inj hd hc hb e2
          subst this
          exact .inl ⟨by rw [ho, ← e1], q⟩
        · rw [if_neg q] at hp; simp at hp
      · by_cases q : outB c = true
        · rw [if_pos q] at hp
          have e : p = (c.nm, o) := by simpa using hp
          subst e
          have := dist_inj hd hc ha e1
          subst this
          exact .inr ⟨by rw [ho, ← e2], q⟩
        · rw [if_neg q] at hp; simp at hp
  · rintro (⟨h1, h2⟩ | ⟨h1, h2⟩)
    · refine ⟨(a.nm, b.nm), ⟨b, hb, ?_⟩, rfl, rfl⟩
      unfold sightB
      rw [h1]
      dsimp only
      rw [if_pos h2]
      simp
    · refine ⟨(a.nm, b.nm), ⟨a, ha, ?_⟩, rfl, rfl⟩
      unfold sightB
      rw [h1]
      dsimp only
      rw [if_pos h2]
      simp
theorem eqO2_eqO {o : Option Nm} {s : Nm} : eqO2 o s = eqO o s := rfl
theorem lets_pairs {bs : List Bx} (F : FactsK (bs.map pr)) {a b : Bx} (ha : a ∈ bs) (hb : b ∈ bs) (hn : nextM a b = true) : letsM a b = pairIn (sightsM bs) a.nm b.nm := by
  have hd := F.dist
  rw [fst_pr] at hd
  rw [pairs_lets hd ha hb]
  have no := F.no2 (pr a) (List.mem_map.mpr ⟨a, ha, rfl⟩) (pr b) (List.mem_map.mpr ⟨b, hb, rfl⟩)
  have no : eqO a.out b.nm = true → eqO b.out a.nm = true → False := no
  unfold nextM at hn
  unfold letsM
  cases q1 : eqO b.out a.nm with
  | true =>
    cases q2 : eqO a.out b.nm with
    | true => exact (no q2 q1).elim
    | false => simp
  | false =>
    rw [q1] at hn
    simp at hn
    rw [hn]
    simp
theorem rowOf_out {s : Nm} : ∀ {bs : List Bx} {b : Bx}, rowOf bs s = some b → outOf bs s = some b.out
  | [], b, h => by cases h
  | c :: bs, b, h => by
    unfold rowOf at h
    unfold outOf
    cases q : eqN c.nm s with
    | true =>
      rw [List.filter_cons_of_pos (by simpa using q)] at h
      cases h
      rfl
    | false =>
      rw [List.filter_cons_of_neg (by simp [q])] at h
      exact rowOf_out h
end Ev.Mr
namespace Ev.Mr
local macro_rules | `(tactic| simp_arith [$ts,*]) => `(tactic| simp only [op2_add, op2_sub, op2_mul, op2_fdiv, op2_mod, op2_eq, op2_ne, op2_lt, op2_le, op2_gt, op2_ge, op2_is, op2_isnot, op2_in, op2_notin, op2_idx, bD_some, nD_some, ltD_int, ltD_str, leD_int, bi_len, bi_all, bi_dict, bi_dictT, bi_sorted, bi_tuple, bi_list, bi_max, bi_min, len_tup, len_lst, len_dk, seqI_tup, seqI_lst, seqP_tup, seqP_lst, seqs_tup, seqs_lst, isi_str_str, isi_tup_tup, is_non_non, is_str_non, is_lst_non, is_tup_non, idx_tup, idx_lst, idx_dkS, in_str, obind_some, omap_some, andK_bl, orK_bl, notK_bl, iteK_bl, chnK_bl, iffK_bl, evE_var, varK_some, evE_non, evE_bl, evE_int, evE_str, evE_glob, evE_tup, evE_lst, evE_lstH, evE_dct, evE_op, evE_chn, evE_and2, evE_or2, evE_not, evE_ife, evE_call, evE_bi, evE_isi, evE_slc, evE_rev, revK_lst, evE_skey, skeyK_lst, evE_told, evE_bor, borK_bl, borK_int, frz_nil, frz_none, frz_some, evE_idxO, idxOK_some, evEs_nil, evEs_cons, evI_seq, evI_enum, evI_zip, evI_range, evI_own, ownK_some, bndK_some, evS_set, evS_setO, own_lst, own_dk, evS_par, evPar_nil, evPar_cons, setPar_nil, setPar_cons, evFor_nil, evS_app, appK_some, evS_pop, evS_put, evS_putH, evS_exp, evS_ret, evS_raise, evS_iff, evS_for, evS_whl, evS_frz, frzK_some, evSS_nil, evSS_cons, out_nx, out_rt, out_exc, bindS_exc, R.bind_ok, R.bindS_ok, RS.bind_nx, RS.bind_rt, RS.bind_exc, R.bind_exc, bindS_exc, liftO_some, ite_and, ite_or, List.getElem?_cons_zero, List.getElem?_cons_succ, List.length_map, List.length_cons, List.length_nil, bindT, List.set_cons_zero, List.set_cons_succ, allB_map, allT, if_true, if_false, reduceCtorEq, Nat.reduceAdd, Nat.reduceLT, ↓reduceIte, decide_true, decide_false, Bool.and_true, Bool.true_and, Bool.false_and, Bool.and_false, Bool.or_false, Bool.false_or, Bool.or_true, Bool.true_or, Bool.not_true, Bool.not_false, Bool.false_eq_true, $ts,*])
section
variable {tab : Nat → Option FD} {con : Nat → Option D} {TD : Nat → Nat → Option D} {n : Nat} {st : HSt}
/-! ### k02: boxes in boxes -/
def refusedN : Nm := [114, 101, 102, 117, 115, 101, 100]
def nothingN : Nm := [78, 111, 116, 104, 105, 110, 103]
def badNameN : Nm := [66, 97, 100, 78, 97, 109, 101]
def rfD (s : Nm) : D := .tup [.str refusedN, .str s]
structure Tab2 (tab : Nat → Option FD) (con : Nat → Option D) : Prop extends TabW tab con where
  h12 : Is tab 12 2 2 b_need_box
  h14 : Is tab 14 3 2 b_row_of
  h16 : Is tab 16 4 2 b_within
  h17 : Is tab 17 2 2 b_inside
  h18 : Is tab 18 4 3 b_lets_sight
  h19 : Is tab 19 3 3 b_are_next
  h49 : Is tab 49 2 2 b_depth
  h50 : Is tab 50 3 3 b_is_clear
  h52 : Is tab 52 2 2 b_seers
  h53 : Is tab 53 3 2 b_alone
  h38 : Is tab 38 2 2 b_law_cell
  h39 : Is tab 39 3 2 b_law_drawn
  h40 : Is tab 40 3 2 b_law_roll
  h41 : Is tab 41 3 2 b_law_rounds
  h54 : Is tab 44 10 2 b_law_any_world
  h55 : Is tab 55 2 1 b_law_names
  h56 : Is tab 56 2 1 b_law_outer
  h57 : Is tab 57 4 2 b_law_chain_up
  h58 : Is tab 58 6 1 b_law_sights
theorem eqD_bl {a b : Bool} : eqD (.bl a) (.bl b) = some (a == b) := rfl
theorem beqs_refl : ∀ l : List Nm, beqs (l.map .str) (l.map .str) = true
  | [] => rfl
  | x :: l => by simp [beqs, beq, eqN_refl, beqs_refl l]
theorem okDs_strs {k : Nat} {l : List Nm} (h : ∀ s ∈ l, okS s = true) : okDs (l.map .str) k = true := okDs_of fun s hs => by
  have := h s hs
  cases k <;> exact this
theorem eq_lst_strs {l : List Nm} (h : ∀ s ∈ l, okS s = true) : eqD (.lst (l.map .str)) (.lst (l.map .str)) = some true := by
  have e : eqD (.lst (l.map .str)) (.lst (l.map .str)) = if okD (.lst (l.map .str)) 60 && okD (.lst (l.map .str)) 60 then some (beq (.lst (l.map .str)) (.lst (l.map .str))) else none := rfl
  have o : okD (.lst (l.map .str)) 60 = true := okDs_strs (k := 59) h
  rw [e, o]
  show some (beqs (l.map .str) (l.map .str)) = _
  rw [beqs_refl]
theorem anyEq_pairs {s t : Nm} : ∀ {ps : List (Nm × Nm)}, anyEq (.tup [.str s, .str t]) (ps.map wD) = pairIn ps s t
  | [] => rfl
  | p :: ps => by
    show (beq (wD p) (.tup [.str s, .str t]) || anyEq (.tup [.str s, .str t]) (ps.map wD)) = ((eqN p.1 s && eqN p.2 t) || pairIn ps s t)
    rw [anyEq_pairs (ps := ps)]
    show ((eqN p.1 s && (eqN p.2 t && true)) || _) = _
    rw [Bool.and_true]
theorem in_pairs {s t : Nm} {ps : List (Nm × Nm)} (hs : okS s = true) (ht : okS t = true) (hp : ∀ p ∈ ps, okS p.1 = true ∧ okS p.2 = true) : inD st (.tup [.str s, .str t]) (.lst (ps.map wD)) = some (pairIn ps s t) := by
  have e : inD st (.tup [.str s, .str t]) (.lst (ps.map wD)) = if flatD (.tup [.str s, .str t]) && (ps.map wD).all flatD then some (anyEq (.tup [.str s, .str t]) (ps.map wD)) else if okD (.tup [.str s, .str t]) 60 && okDs (ps.map wD) 60 then some (anyEq (.tup [.str s, .str t]) (ps.map wD)) else none := rfl
  have o1 : okD (.tup [.str s, .str t]) 60 = true := by
    show (okS s && (okS t && true)) = true
    rw [hs, ht]; rfl
  have o2 : okDs (ps.map wD) 60 = true := okDs_of fun p h => by
    show (okS p.1 && (okS p.2 && true)) = true
    rw [(hp p h).1, (hp p h).2]; rfl
  rw [e, o1, o2, anyEq_pairs]
  rfl
theorem sights_ok {bs : List Bx} (F : FactsK (bs.map pr)) {p : Nm × Nm} (hp : p ∈ sightsM bs) : okS p.1 = true ∧ okS p.2 = true := by
  obtain ⟨b, hb, hp⟩ := List.mem_flatMap.mp hp
  have o := F.ok (pr b) (List.mem_map.mpr ⟨b, hb, rfl⟩)
  unfold sightB at hp
  cases ho : b.out with
  | none => rw [ho] at hp; simp at hp
  | some x =>
    have ox : okS x = true := by have := o.2; rw [show (pr b).2 = b.out from rfl, ho] at this; exact this
    rw [ho] at hp
    rcases List.mem_append.mp hp with hp | hp
    · by_cases q : inB b = true
      · rw [if_pos q] at hp
        have e : p = (x, b.nm) := by simpa using hp
        subst e; exact ⟨ox, o.1⟩
      · rw [if_neg q] at hp; simp at hp
    · by_cases q : outB b = true
      · rw [if_pos q] at hp
        have e : p = (b.nm, x) := by simpa using hp
        subst e; exact ⟨o.1, ox⟩
      · rw [if_neg q] at hp; simp at hp
def chainP (sk : Sk) (s : Nm) : List Nm := match overP sk 100 s [] with
  | some (some l) => l
  | _ => []
def withinP (sk : Sk) (s : Nm) : List Nm := (sk.map Prod.fst).filter fun x => memS s (chainP sk x)
def eqNs : List Nm → List Nm → Bool
  | [], [] => true
  | a :: as, b :: bs => eqN a b && eqNs as bs
  | _, _ => false
theorem eqNs_ok : ∀ {a b : List Nm}, eqNs a b = true → a = b
  | [], [], _ => rfl
  | [], _ :: _, h => by cases h
  | _ :: _, [], h => by cases h
  | a :: as, b :: bs, h => by
    simp only [eqNs, Bool.and_eq_true] at h
    rw [eqN_iff.mp h.1, eqNs_ok h.2]
def facts2 (sk : Sk) : Bool := (sk.map Prod.fst).all (fun s => (match upP sk 100 s [] with | some l => eqNs l (chainP sk s) | none => false) && eqNs (sortN (withinP sk s)) (withinP sk s)) && memS hallN (sk.map Prod.fst)
  && !(memS [] (sk.map Prod.fst)) && !(memS [97, 116, 116, 105, 99] (sk.map Prod.fst)) && !(memS [72, 97, 108, 108] (sk.map Prod.fst)) && Nat.ble sk.length 60
theorem skels_facts2 : skels.all facts2 = true := by decide +kernel
structure Facts2 (sk : Sk) : Prop where
  up : ∀ s ∈ sk.map Prod.fst, upP sk 100 s [] = some (chainP sk s)
  srt : ∀ s ∈ sk.map Prod.fst, sortN (withinP sk s) = withinP sk s
  hall : memS hallN (sk.map Prod.fst) = true
  b1 : memS [] (sk.map Prod.fst) = false
  b2 : memS [97, 116, 116, 105, 99] (sk.map Prod.fst) = false
  b3 : memS [72, 97, 108, 108] (sk.map Prod.fst) = false
  few : sk.length ≤ 60
theorem facts2_ok {sk : Sk} (h : facts2 sk = true) : Facts2 sk := by
  unfold facts2 at h
  simp only [Bool.and_eq_true, List.all_eq_true, Bool.not_eq_true', Nat.ble_eq] at h
  obtain ⟨⟨⟨⟨⟨h1, h2⟩, h3⟩, h4⟩, h5⟩, h6⟩ := h
  refine ⟨fun s hs => ?_, fun s hs => eqNs_ok (h1 s hs).2, h2, h3, h4, h5, h6⟩
  have := (h1 s hs).1
  cases q : upP sk 100 s [] with
  | none => rw [q] at this; cases this
  | some l => rw [q] at this; rw [eqNs_ok this]
theorem WOk.facts2 {w : Wr} (h : WOk w) : Facts2 (w.bs.map pr) := facts2_ok (List.all_eq_true.mp skels_facts2 _ h.sk)
theorem chainM_P {bs : List Bx} {s : Nm} : chainM 100 bs s = chainP (bs.map pr) s := by
  unfold chainM chainP
  rw [overM_P]
  all_goals (cases overP (bs.map pr) 100 s [] with
    | none => rfl
    | some o => cases o <;> rfl)
def lE (a0 a1 a2 a3 a4 a5 a6 a7 a8 a9 a10 a11 : Sl) : EvEnv := [a0, a1, a2, a3, a4, a5, a6, a7, a8, a9, a10, a11]
def b8 : SS := .cons (.set (.nm 10) (.or2 (.op .eq (.op .idx (.call 56 (.cons (.var 2) .nil)) (.var 3)) (.var 8)) (.op .eq (.op .idx (.call 56 (.cons (.var 2) .nil)) (.var 8)) (.var 3)))) (.cons (.set (.nm 7) (.ife (.var 10) (.op .in_ (.tup (.cons (.var 3) (.cons (.var 8) .nil))) (.var 6)) (.tup (.cons (.str [114, 101, 102, 117, 115, 101, 100]) (.cons (.str [78, 111, 116, 104, 105, 110, 103]) .nil)))))
  (.cons (.iff (.op .ne (.told 43 (.call 50 (.cons (.var 2) (.cons (.var 3) (.cons (.var 8) .nil))))) (.var 7)) (.cons (.ret (.bl false)) .nil) .nil) .nil))
theorem run_b8 (T : Tab2 tab con) (h9 : TD 43 9 = some (rfD nothingN)) {w : Wr} (g : WOk w) {s t : Nm} (hs : memS s w.ns = true) (ht : memS t w.ns = true) {a0 a1 a4 a7 a9 a10 a11 : Sl} :
    ∃ y7 y10, evSS con ((evC tab con TD 100) (n + 7)) TD 100 (lE a0 a1 (some (false, w.d)) (some (false, .str s)) a4 (some (false, .lst (w.ns.map .str))) (some (false, .lst ((sightsM w.bs).map wD))) a7 (some (false, .str t)) a9 a10 a11) b8 st
      = .nx (lE a0 a1 (some (false, w.d)) (some (false, .str s)) a4 (some (false, .lst (w.ns.map .str))) (some (false, .lst ((sightsM w.bs).map wD))) y7 (some (false, .str t)) a9 y10 a11) st := by
  obtain ⟨a, ra, ea, ma⟩ := rowOf_mem hs
  obtain ⟨b, rb, eb, mb⟩ := rowOf_mem ht
  have gd := g.good
  have F := g.facts
  have oa := rowOf_out ra
  have ob := rowOf_out rb
  have ko := (F.ok (pr a) (List.mem_map.mpr ⟨a, ma, rfl⟩)).1
  have kt := (F.ok (pr b) (List.mem_map.mpr ⟨b, mb, rfl⟩)).1
  have ko : okS s = true := by rw [← ea]; exact ko
  have kt : okS t = true := by rw [← eb]; exact kt
  have clr := s_is_clear (n := n + 1) (TD := TD) (st := st) T.toTabW T.h12 T.h14 T.h18 T.h19 T.h50 gd ra rb ea eb hs ht
  have inp := in_pairs (st := st) ko kt fun p hp => sights_ok F hp
  have nx : nextM a b = (eqO a.out t || eqO b.out s) := by unfold nextM; rw [ea, eb]
  cases q : nextM a b with
  | true =>
    have lp := lets_pairs F ma mb q
    rw [ea, eb] at lp
    rw [q] at clr nx
    rw [if_pos rfl] at clr
    unfold lE b8
    refine ⟨some (false, .bl (pairIn (sightsM w.bs) s t)), some (false, .bl true), ?_⟩
    simp_arith [s_outer T.h56 gd.len gd.dist, idx_out, oa, ob, omap_some, eq_oD, ← nx, inp, clr, tdR, lp, eqD_bl, beq_self_eq_true]
  | false =>
    rw [q] at clr nx
    rw [if_neg (by simp)] at clr
    unfold lE b8
    refine ⟨some (false, rfD nothingN), some (false, .bl false), ?_⟩
    have er : eqD (rfD nothingN) (.tup [.str [114, 101, 102, 117, 115, 101, 100], .str [78, 111, 116, 104, 105, 110, 103]]) = some true := by rfl
    simp_arith [s_outer T.h56 gd.len gd.dist, idx_out, oa, ob, omap_some, eq_oD, ← nx, clr, tdR, h9, er]
    rfl
theorem ns_pr (w : Wr) : (w.bs.map pr).map Prod.fst = w.ns := fst_pr w.bs
theorem withinM_P {w : Wr} {s : Nm} : withinM 100 w s = withinP (w.bs.map pr) s := by
  unfold withinM withinP
  rw [ns_pr]
  congr 1
  funext x
  rw [chainM_P]
theorem allStr_map : ∀ l : List Nm, allStr (l.map .str) = some l
  | [] => rfl
  | x :: l => by
    show (allStr (l.map .str)).map (x :: ·) = _
    rw [allStr_map l]; rfl
theorem within_sub {sk : Sk} {s x : Nm} (h : x ∈ withinP sk s) : x ∈ sk.map Prod.fst := (List.mem_filter.mp h).1
def b3 : SS := .cons (.set (.nm 7) (.bi .sorted (.cons (.lcf [11] (.nm 11) (.seq (.var 5)) (.var 11) (.op .in_ (.var 3) (.call 57 (.cons (.var 2) (.cons (.var 11) .nil))))) .nil)))
  (.cons (.iff (.or2 (.op .ne (.call 17 (.cons (.var 2) (.cons (.var 3) .nil))) (.var 7)) (.op .ne (.call 49 (.cons (.var 2) (.cons (.var 3) .nil))) (.bi .len (.cons (.call 57 (.cons (.var 2) (.cons (.var 3) .nil))) .nil)))) (.cons (.ret (.bl false)) .nil) .nil) (.cons (.for_ (.nm 8) (.seq (.var 5)) b8) .nil))
theorem run_b3 (T : Tab2 tab con) (h9 : TD 43 9 = some (rfD nothingN)) {w : Wr} (g : WOk w) {s : Nm} (hs : memS s w.ns = true) {a0 a1 a4 a7 a8 a9 a10 a11 : Sl} :
    ∃ y7 y8 y10, evSS con ((evC tab con TD 100) (n + 7)) TD 100 (lE a0 a1 (some (false, w.d)) (some (false, .str s)) a4 (some (false, .lst (w.ns.map .str))) (some (false, .lst ((sightsM w.bs).map wD))) a7 a8 a9 a10 a11) b3 st
      = .nx (lE a0 a1 (some (false, w.d)) (some (false, .str s)) a4 (some (false, .lst (w.ns.map .str))) (some (false, .lst ((sightsM w.bs).map wD))) y7 y8 a9 y10 a11) st := by
  have gd := g.good
  have F := g.facts
  have F2 := g.facts2
  have up : ∀ x, memS x w.ns = true → (evC tab con TD 100) (n + 7) 57 [w.d, .str x] st = .ok (.lst ((chainP (w.bs.map pr) x).map .str)) st := fun x hx =>
    s_chain_up (n := n + 5) T.h56 T.h57 (by decide) gd.len gd.dist (F2.up x (by rw [ns_pr]; exact memS_iff.mp hx))
  have hsp : s ∈ (w.bs.map pr).map Prod.fst := by rw [ns_pr]; exact memS_iff.mp hs
  have oks : ∀ x ∈ (w.bs.map pr).map Prod.fst, okS x = true := fun x hx => by
    obtain ⟨p, hp, rfl⟩ := List.mem_map.mp hx
    exact (F.ok p hp).1
  have k1 : ∀ z3 z7, evE con ((evC tab con TD 100) (n + 7)) TD (lE a0 a1 (some (false, w.d)) (some (false, .str s)) z3 (some (false, .lst (w.ns.map .str))) (some (false, .lst ((sightsM w.bs).map wD))) z7 a8 a9 a10 a11) (.lcf [11] (.nm 11) (.seq (.var 5)) (.var 11) (.op .in_ (.var 3) (.call 57 (.cons (.var 2) (.cons (.var 11) .nil))))) st = .ok (.lst ((withinP (w.bs.map pr) s).map .str)) st := fun z3 z7 => by
    have hlen : (w.ns.map D.str).length ≤ 1000 := by have := gd.len; simpa [Wr.ns] using this
    rw [withinP, ns_pr]
    refine evE_lcf (ds := w.ns.map .str) (by unfold lE; simp_arith []) hlen (evLC_filter fun x hx => ⟨lE a0 a1 (some (false, w.d)) (some (false, .str s)) z3 (some (false, .lst (w.ns.map .str))) (some (false, .lst ((sightsM w.bs).map wD))) z7 a8 a9 a10 (some (false, .str x)), by rfl, ?_, fun _ => ?_⟩)
    · have := up x (memS_iff.mpr hx)
      unfold lE
      simp_arith [this, in_strs]
      rfl
    · unfold lE
      simp_arith []
  have few : (withinP (w.bs.map pr) s).length < 64 := by
    have h1 : (withinP (w.bs.map pr) s).length ≤ ((w.bs.map pr).map Prod.fst).length := List.length_filter_le _ _
    have h2 := F2.few
    rw [List.length_map] at h1
    omega
  have k2 := s_inside (n := n + 1) (TD := TD) (st := st) T.toTabW T.h12 T.h16 T.h17 gd hs
  rw [withinM_P] at k2
  have k3 := s_depth (n := n + 1) (TD := TD) (st := st) T.toTabW T.h12 T.h49 gd hs
  rw [chainM_P] at k3
  have eq1 := eq_lst_strs (l := withinP (w.bs.map pr) s) fun x hx => oks x (within_sub hx)
  have loop := evFor_inv (f := fun env st => evSS con ((evC tab con TD 100) (n + 7)) TD 100 env b8 st) (t := .nm 8) (xs := w.ns.map .str)
    (P := fun env st' => st' = st ∧ ∃ x7 x8 x10, env = lE a0 a1 (some (false, w.d)) (some (false, .str s)) a4 (some (false, .lst (w.ns.map .str))) (some (false, .lst ((sightsM w.bs).map wD))) x7 x8 a9 x10 a11)
    (fun x hx env st' ⟨e1, x7, x8, x10, e2⟩ => by
      obtain ⟨t, ht, rfl⟩ := List.mem_map.mp hx
      subst e1 e2
      obtain ⟨y7, y10, e⟩ := run_b8 (n := n) (TD := TD) (st := st') T h9 g hs (memS_iff.mpr ht) (a0 := a0) (a1 := a1) (a4 := a4) (a7 := x7) (a9 := a9) (a10 := x10) (a11 := a11)
      exact ⟨_, by rfl, _, _, e, rfl, _, _, _, rfl⟩)
    (lE a0 a1 (some (false, w.d)) (some (false, .str s)) a4 (some (false, .lst (w.ns.map .str))) (some (false, .lst ((sightsM w.bs).map wD))) (some (false, .lst ((withinP (w.bs.map pr) s).map .str))) a8 a9 a10 a11) st ⟨rfl, _, _, _, rfl⟩
  obtain ⟨env', st', e1, rfl, x7, x8, x10, rfl⟩ := loop
  refine ⟨x7, x8, x10, ?_⟩
  have s1 : evS con ((evC tab con TD 100) (n + 7)) TD 100 (lE a0 a1 (some (false, w.d)) (some (false, .str s)) a4 (some (false, .lst (w.ns.map .str))) (some (false, .lst ((sightsM w.bs).map wD))) a7 a8 a9 a10 a11) (.set (.nm 7) (.bi .sorted (.cons (.lcf [11] (.nm 11) (.seq (.var 5)) (.var 11) (.op .in_ (.var 3) (.call 57 (.cons (.var 2) (.cons (.var 11) .nil))))) .nil))) st'
      = .nx (lE a0 a1 (some (false, w.d)) (some (false, .str s)) a4 (some (false, .lst (w.ns.map .str))) (some (false, .lst ((sightsM w.bs).map wD))) (some (false, .lst ((withinP (w.bs.map pr) s).map .str))) a8 a9 a10 a11) st' := by
    simp_arith [k1, allStr_map, if_pos few, F2.srt s hsp]
    rfl
  have s2 : evS con ((evC tab con TD 100) (n + 7)) TD 100 (lE a0 a1 (some (false, w.d)) (some (false, .str s)) a4 (some (false, .lst (w.ns.map .str))) (some (false, .lst ((sightsM w.bs).map wD))) (some (false, .lst ((withinP (w.bs.map pr) s).map .str))) a8 a9 a10 a11) (.iff (.or2 (.op .ne (.call 17 (.cons (.var 2) (.cons (.var 3) .nil))) (.var 7)) (.op .ne (.call 49 (.cons (.var 2) (.cons (.var 3) .nil))) (.bi .len (.cons (.call 57 (.cons (.var 2) (.cons (.var 3) .nil))) .nil)))) (.cons (.ret (.bl false)) .nil) .nil) st'
      = .nx (lE a0 a1 (some (false, w.d)) (some (false, .str s)) a4 (some (false, .lst (w.ns.map .str))) (some (false, .lst ((sightsM w.bs).map wD))) (some (false, .lst ((withinP (w.bs.map pr) s).map .str))) a8 a9 a10 a11) st' := by
    unfold lE
    simp_arith [k2, eq1, k3, up s hs, eq_ints, beq_self_eq_true]
  have s3 : evI con ((evC tab con TD 100) (n + 7)) TD (lE a0 a1 (some (false, w.d)) (some (false, .str s)) a4 (some (false, .lst (w.ns.map .str))) (some (false, .lst ((sightsM w.bs).map wD))) (some (false, .lst ((withinP (w.bs.map pr) s).map .str))) a8 a9 a10 a11) (.seq (.var 5)) st' = .ok (w.ns.map .str) st' := by
    unfold lE
    simp_arith []
  unfold b3
  rw [evSS_cons, s1, RS.bind_nx, evSS_cons, s2, RS.bind_nx, evSS_cons, evS_for, s3, R.bindS_ok, e1, RS.bind_nx, evSS_nil]
def b4 : SS := .cons (.setO 9 (.lst (.cons (.told 43 (.call 17 (.cons (.var 2) (.cons (.var 4) .nil)))) .nil))) (.cons (.app 9 (.told 43 (.call 49 (.cons (.var 2) (.cons (.var 4) .nil))))) (.cons (.app 9 (.told 43 (.call 50 (.cons (.var 2) (.cons (.var 4) (.cons .non .nil)))))) (.cons (.app 9 (.told 43 (.call 50 (.cons (.var 2) (.cons (.str [104, 97, 108, 108]) (.cons (.var 4) .nil))))))
  (.cons (.app 9 (.told 43 (.call 52 (.cons (.var 2) (.cons (.var 4) .nil))))) (.cons (.app 9 (.told 43 (.call 53 (.cons (.var 2) (.cons (.var 4) .nil))))) (.cons (.iff (.bor (.op .ne (.var 9) (.op .mul (.lst (.cons (.tup (.cons (.str [114, 101, 102, 117, 115, 101, 100]) (.cons (.str [66, 97, 100, 78, 97, 109, 101]) .nil))) .nil)) (.int 6)))) (.cons (.ret (.bl false)) .nil) .nil) .nil))))))
theorem run_b4 (T : Tab2 tab con) (h2 : TD 43 2 = some (rfD badNameN)) {w : Wr} (g : WOk w) {d : D} (hd : BadN w d) {a0 a1 a3 a5 a6 a7 a8 a9 a10 a11 : Sl} :
    ∃ y9, evSS con ((evC tab con TD 100) (n + 7)) TD 100 (lE a0 a1 (some (false, w.d)) a3 (some (false, d)) a5 a6 a7 a8 a9 a10 a11) b4 st = .nx (lE a0 a1 (some (false, w.d)) a3 (some (false, d)) a5 a6 a7 a8 y9 a10 a11) st := by
  have gd := g.good
  have hh : memS hallN w.ns = true := by have := g.facts2.hall; rwa [ns_pr] at this
  have e1 := b_inside_bad (n := n + 1) (TD := TD) (st := st) T.toTabW T.h12 T.h17 gd hd
  have e2 := b_depth_bad (n := n + 1) (TD := TD) (st := st) T.toTabW T.h12 T.h49 gd hd
  have e3 := b_clear_bad1 (n := n + 1) (TD := TD) (st := st) T.toTabW T.h12 T.h50 gd hd (e := .non)
  have e4 := b_clear_bad2 (n := n + 1) (TD := TD) (st := st) T.toTabW T.h12 T.h50 gd hh hd
  have e4 : (evC tab con TD 100) (n + 7) 50 [w.d, .str [104, 97, 108, 108], d] st = .exc 2 st := e4
  have e5 := b_seers_bad (n := n + 1) (TD := TD) (st := st) T.toTabW T.h12 T.h52 gd hd
  have e6 := b_alone_bad (n := n + 1) (TD := TD) (st := st) T.toTabW T.h12 T.h53 gd hd
  refine ⟨some (true, .lst [rfD badNameN, rfD badNameN, rfD badNameN, rfD badNameN, rfD badNameN, rfD badNameN]), ?_⟩
  unfold lE b4
  have l1 : 1 < line := by decide
  have l2 : 2 < line := by decide
  have l3 : 3 < line := by decide
  have l4 : 4 < line := by decide
  have l5 : 5 < line := by decide
  have m6 : mulD (.lst [.tup [.str [114, 101, 102, 117, 115, 101, 100], .str [66, 97, 100, 78, 97, 109, 101]]]) (.int 6) = some (.lst [rfD badNameN, rfD badNameN, rfD badNameN, rfD badNameN, rfD badNameN, rfD badNameN]) := by rfl
  have q6 : eqD (.lst [rfD badNameN, rfD badNameN, rfD badNameN, rfD badNameN, rfD badNameN, rfD badNameN]) (.lst [rfD badNameN, rfD badNameN, rfD badNameN, rfD badNameN, rfD badNameN, rfD badNameN]) = some true := by rfl
  simp_arith [e1, e2, e3, e4, e5, e6, tdR, h2, l1, l2, l3, l4, l5, List.cons_append, List.nil_append, frz_get, Option.map_some, m6, q6]
/-! the law -/
def lawB : SS := .cons (.set (.nm 2) (.call 44 (.cons (.var 1) (.cons (.int 4) .nil)))) (.cons (.par [5, 6] [(false, (.call 55 (.cons (.var 2) .nil))), (false, (.call 58 (.cons (.var 2) .nil)))]) (.cons (.for_ (.nm 3) (.seq (.var 5)) b3)
  (.cons (.for_ (.nm 4) (.seq (.lst (.cons .non (.cons (.int 5) (.cons (.str []) (.cons (.str [97, 116, 116, 105, 99]) (.cons (.str [72, 97, 108, 108]) (.cons (.tup (.cons (.str [104, 97, 108, 108]) .nil)) .nil)))))))) b4) .nil)))
theorem run_lawB (T : Tab2 tab con) (h9 : TD 43 9 = some (rfD nothingN)) (h2 : TD 43 2 = some (rfD badNameN)) {k : Nat} (hk : IsDie st k) {a0 a2 a3 a4 a5 a6 a7 a8 a9 a10 a11 : Sl} :
    ∃ y2 y3 y4 y5 y6 y7 y8 y9 y10 a b, evSS con ((evC tab con TD 100) (n + 7)) TD 100 (lE a0 (some (false, .hnd k)) a2 a3 a4 a5 a6 a7 a8 a9 a10 a11) lawB st = .nx (lE a0 (some (false, .hnd k)) y2 y3 y4 y5 y6 y7 y8 y9 y10 a11) (st.set k (dieH a b)) := by
  obtain ⟨w, a, b, g, e1⟩ := s_any_world_v2 (n := n + 4) (con := con) (TD := TD) (fu := 100) (st := st) (high := 4) T.h39 T.h40 T.h54 hk (by decide) (by decide)
  have gd := g.good
  have F2 := g.facts2
  have s1 : evS con ((evC tab con TD 100) (n + 7)) TD 100 (lE a0 (some (false, .hnd k)) a2 a3 a4 a5 a6 a7 a8 a9 a10 a11) (.set (.nm 2) (.call 44 (.cons (.var 1) (.cons (.int 4) .nil)))) st = .nx (lE a0 (some (false, .hnd k)) (some (false, w.d)) a3 a4 a5 a6 a7 a8 a9 a10 a11) (st.set k (dieH a b)) := by
    unfold lE
    simp_arith [e1]
  have s2 : evS con ((evC tab con TD 100) (n + 7)) TD 100 (lE a0 (some (false, .hnd k)) (some (false, w.d)) a3 a4 a5 a6 a7 a8 a9 a10 a11) (.par [5, 6] [(false, (.call 55 (.cons (.var 2) .nil))), (false, (.call 58 (.cons (.var 2) .nil)))]) (st.set k (dieH a b))
      = .nx (lE a0 (some (false, .hnd k)) (some (false, w.d)) a3 a4 (some (false, .lst (w.ns.map .str))) (some (false, .lst ((sightsM w.bs).map wD))) a7 a8 a9 a10 a11) (st.set k (dieH a b)) := by
    unfold lE
    simp_arith [s_names T.h55 gd.len, s_sights T.h58 gd.len]
  obtain ⟨env3, st3, l3, rfl, x3, x7, x8, x10, rfl⟩ := evFor_inv (f := fun env st => evSS con ((evC tab con TD 100) (n + 7)) TD 100 env b3 st) (t := .nm 3) (xs := w.ns.map .str)
    (P := fun env st' => st' = st.set k (dieH a b) ∧ ∃ x3 x7 x8 x10, env = lE a0 (some (false, .hnd k)) (some (false, w.d)) x3 a4 (some (false, .lst (w.ns.map .str))) (some (false, .lst ((sightsM w.bs).map wD))) x7 x8 a9 x10 a11)
    (fun x hx env st' ⟨q1, x3, x7, x8, x10, q2⟩ => by
      obtain ⟨s, hs, rfl⟩ := List.mem_map.mp hx
      subst q1 q2
      obtain ⟨y7, y8, y10, e⟩ := run_b3 (n := n) (TD := TD) (st := st.set k (dieH a b)) T h9 g (memS_iff.mpr hs) (a0 := a0) (a1 := some (false, .hnd k)) (a4 := a4) (a7 := x7) (a8 := x8) (a9 := a9) (a10 := x10) (a11 := a11)
      exact ⟨_, by rfl, _, _, e, rfl, _, _, _, _, rfl⟩)
    (lE a0 (some (false, .hnd k)) (some (false, w.d)) a3 a4 (some (false, .lst (w.ns.map .str))) (some (false, .lst ((sightsM w.bs).map wD))) a7 a8 a9 a10 a11) (st.set k (dieH a b)) ⟨rfl, _, _, _, _, rfl⟩
  have bad : ∀ x ∈ ([.non, .int 5, .str [], .str [97, 116, 116, 105, 99], .str [72, 97, 108, 108], .tup [.str [104, 97, 108, 108]]] : List D), BadN w x := fun x hx => by
    have f1 := F2.b1
    have f2 := F2.b2
    have f3 := F2.b3
    rw [ns_pr] at f1 f2 f3
    simp only [List.mem_cons, List.not_mem_nil, or_false] at hx
    rcases hx with rfl | rfl | rfl | rfl | rfl | rfl
    · exact .inl rfl
    · exact .inl rfl
    · exact .inr ⟨_, rfl, f1⟩
    · exact .inr ⟨_, rfl, f2⟩
    · exact .inr ⟨_, rfl, f3⟩
    · exact .inl rfl
  obtain ⟨env4, st4, l4, rfl, x4, x9, rfl⟩ := evFor_inv (f := fun env st => evSS con ((evC tab con TD 100) (n + 7)) TD 100 env b4 st) (t := .nm 4) (xs := [.non, .int 5, .str [], .str [97, 116, 116, 105, 99], .str [72, 97, 108, 108], .tup [.str [104, 97, 108, 108]]])
    (P := fun env st' => st' = st.set k (dieH a b) ∧ ∃ x4 x9, env = lE a0 (some (false, .hnd k)) (some (false, w.d)) x3 x4 (some (false, .lst (w.ns.map .str))) (some (false, .lst ((sightsM w.bs).map wD))) x7 x8 x9 x10 a11)
    (fun x hx env st' ⟨q1, x4, x9, q2⟩ => by
      subst q1 q2
      obtain ⟨y9, e⟩ := run_b4 (n := n) (TD := TD) (st := st.set k (dieH a b)) T h2 g (bad x hx) (a0 := a0) (a1 := some (false, .hnd k)) (a3 := x3) (a5 := some (false, .lst (w.ns.map .str))) (a6 := some (false, .lst ((sightsM w.bs).map wD))) (a7 := x7) (a8 := x8) (a9 := x9) (a10 := x10) (a11 := a11)
      exact ⟨_, by rfl, _, _, e, rfl, _, _, rfl⟩)
    (lE a0 (some (false, .hnd k)) (some (false, w.d)) x3 a4 (some (false, .lst (w.ns.map .str))) (some (false, .lst ((sightsM w.bs).map wD))) x7 x8 a9 x10 a11) (st.set k (dieH a b)) ⟨rfl, _, _, rfl⟩
  have s3 : evI con ((evC tab con TD 100) (n + 7)) TD (lE a0 (some (false, .hnd k)) (some (false, w.d)) a3 a4 (some (false, .lst (w.ns.map .str))) (some (false, .lst ((sightsM w.bs).map wD))) a7 a8 a9 a10 a11) (.seq (.var 5)) (st.set k (dieH a b)) = .ok (w.ns.map .str) (st.set k (dieH a b)) := by
    unfold lE
    simp_arith []
  have s4 : ∀ env, evI con ((evC tab con TD 100) (n + 7)) TD env (.seq (.lst (.cons .non (.cons (.int 5) (.cons (.str []) (.cons (.str [97, 116, 116, 105, 99]) (.cons (.str [72, 97, 108, 108]) (.cons (.tup (.cons (.str [104, 97, 108, 108]) .nil)) .nil)))))))) (st.set k (dieH a b)) = .ok [.non, .int 5, .str [], .str [97, 116, 116, 105, 99], .str [72, 97, 108, 108], .tup [.str [104, 97, 108, 108]]] (st.set k (dieH a b)) := fun env => by
    simp_arith []
  unfold lawB
  exact ⟨_, _, _, _, _, _, _, _, _, a, b, by rw [evSS_cons, s1, RS.bind_nx, evSS_cons, s2, RS.bind_nx, evSS_cons, evS_for, s3, R.bindS_ok, l3, RS.bind_nx, evSS_cons, evS_for, s4, R.bindS_ok, l4, RS.bind_nx, evSS_nil]⟩
theorem mem_hnds : ∀ {j a : Nat} {x : D}, x ∈ hnds a j → ∃ k, a ≤ k ∧ k < a + j ∧ x = .hnd k
  | 0, a, x, h => by simp [hnds] at h
  | j + 1, a, x, h => by
    simp only [hnds, List.mem_cons] at h
    rcases h with rfl | h
    · exact ⟨a, Nat.le_refl _, by omega, rfl⟩
    · obtain ⟨k, h1, h2, e⟩ := mem_hnds h
      exact ⟨k, by omega, by omega, e⟩
theorem k02_plain (T : Tab2 tab con) (h59 : Is tab 59 12 1 b_law_k02) (h9 : TD 43 9 = some (rfD nothingN)) (h2 : TD 43 2 = some (rfD badNameN)) {ns : List Int} (hn : ns.length ≤ 1000) : ∃ st', (evC tab con TD 100) (n + 8) 59 [.fl (ns.map .int)] [] = .ok (.bl true) st' := by
  obtain ⟨cs, e1⟩ := s_rounds (n := n + 5) (con := con) (TD := TD) (fu := 100) (high := 5) T.h38 T.h41 hn (by decide)
  rw [evC_succ h59]
  show ∃ st', (evSS con ((evC tab con TD 100) (n + 7)) TD 100 (lE (some (false, .fl (ns.map .int))) none none none none none none none none none none none) (.cons (.for_ (.nm 1) (.seq (.call 41 (.cons (.var 0) (.cons (.int 5) .nil)))) lawB) (.cons (.ret (.bl true)) .nil)) []).out = .ok (.bl true) st'
  obtain ⟨env, st, l1, hd, x1, x2, x3, x4, x5, x6, x7, x8, x9, x10, rfl⟩ := evFor_inv (f := fun env st => evSS con ((evC tab con TD 100) (n + 7)) TD 100 env lawB st) (t := .nm 1) (xs := hnds 0 cs.length)
    (P := fun env st' => (∀ k < cs.length, IsDie st' k) ∧ ∃ x1 x2 x3 x4 x5 x6 x7 x8 x9 x10, env = lE (some (false, .fl (ns.map .int))) x1 x2 x3 x4 x5 x6 x7 x8 x9 x10 none)
    (fun x hx env st' ⟨q1, x1, x2, x3, x4, x5, x6, x7, x8, x9, x10, q2⟩ => by
      obtain ⟨k, _, hk, rfl⟩ := mem_hnds hx
      subst q2
      obtain ⟨y2, y3, y4, y5, y6, y7, y8, y9, y10, a, b, e⟩ := run_lawB (n := n) (TD := TD) (st := st') T h9 h2 (q1 k (by omega)) (a0 := some (false, .fl (ns.map .int))) (a2 := x2) (a3 := x3) (a4 := x4) (a5 := x5) (a6 := x6) (a7 := x7) (a8 := x8) (a9 := x9) (a10 := x10) (a11 := none)
      refine ⟨_, by rfl, _, _, e, fun j hj => ?_, _, _, _, _, _, _, _, _, _, _, rfl⟩
      by_cases q : k = j
      · subst q; exact (q1 k hj).set a b
      · obtain ⟨c, d, e⟩ := q1 j hj
        exact ⟨c, d, by rw [List.getElem?_set_ne q]; exact e⟩)
    (lE (some (false, .fl (ns.map .int))) none none none none none none none none none none none) (cs.map (dieH · 0)) ⟨fun k hk => ⟨cs[k], 0, by rw [List.getElem?_map, List.getElem?_eq_getElem hk]; rfl⟩, _, _, _, _, _, _, _, _, _, _, rfl⟩
  refine ⟨st, ?_⟩
  have s1 : evI con ((evC tab con TD 100) (n + 7)) TD (lE (some (false, .fl (ns.map .int))) none none none none none none none none none none none) (.seq (.call 41 (.cons (.var 0) (.cons (.int 5) .nil)))) [] = .ok (hnds 0 cs.length) (cs.map (dieH · 0)) := by
    unfold lE
    have e1 : (evC tab con TD 100) (n + 7) 41 [.fl (ns.map .int), .int 5] [] = .ok (.lst (hnds 0 cs.length)) (cs.map (dieH · 0)) := e1
    simp_arith [e1]
  rw [evSS_cons, evS_for, s1, R.bindS_ok, l1, RS.bind_nx, evSS_cons, evS_ret, evE_bl]
  rfl
end
end Ev.Mr
namespace Ev.Mr
local macro_rules | `(tactic| simp_arith [$ts,*]) => `(tactic| simp only [op2_add, op2_sub, op2_mul, op2_fdiv, op2_mod, op2_eq, op2_ne, op2_lt, op2_le, op2_gt, op2_ge, op2_is, op2_isnot, op2_in, op2_notin, op2_idx, bD_some, nD_some, ltD_int, ltD_str, leD_int, bi_len, bi_all, bi_dict, bi_dictT, bi_sorted, bi_tuple, bi_list, bi_max, bi_min, len_tup, len_lst, len_dk, seqI_tup, seqI_lst, seqP_tup, seqP_lst, seqs_tup, seqs_lst, isi_str_str, isi_tup_tup, is_non_non, is_str_non, is_lst_non, is_tup_non, idx_tup, idx_lst, idx_dkS, in_str, obind_some, omap_some, andK_bl, orK_bl, notK_bl, iteK_bl, chnK_bl, iffK_bl, evE_var, varK_some, evE_non, evE_bl, evE_int, evE_str, evE_glob, evE_tup, evE_lst, evE_lstH, evE_dct, evE_op, evE_chn, evE_and2, evE_or2, evE_not, evE_ife, evE_call, evE_bi, evE_isi, evE_slc, evE_rev, revK_lst, evE_skey, skeyK_lst, evE_told, evE_bor, borK_bl, borK_int, frz_nil, frz_none, frz_some, evE_idxO, idxOK_some, evEs_nil, evEs_cons, evI_seq, evI_enum, evI_zip, evI_range, evI_own, ownK_some, bndK_some, evS_set, evS_setO, own_lst, own_dk, evS_par, evPar_nil, evPar_cons, setPar_nil, setPar_cons, evFor_nil, evS_app, appK_some, evS_pop, evS_put, evS_putH, evS_exp, evS_ret, evS_raise, evS_iff, evS_for, evS_whl, evS_frz, frzK_some, evSS_nil, evSS_cons, out_nx, out_rt, out_exc, bindS_exc, R.bind_ok, R.bindS_ok, RS.bind_nx, RS.bind_rt, RS.bind_exc, R.bind_exc, bindS_exc, liftO_some, ite_and, ite_or, List.getElem?_cons_zero, List.getElem?_cons_succ, List.length_map, List.length_cons, List.length_nil, bindT, List.set_cons_zero, List.set_cons_succ, allB_map, allT, if_true, if_false, reduceCtorEq, Nat.reduceAdd, Nat.reduceLT, ↓reduceIte, decide_true, decide_false, Bool.and_true, Bool.true_and, Bool.false_and, Bool.and_false, Bool.or_false, Bool.false_or, Bool.or_true, Bool.true_or, Bool.not_true, Bool.not_false, Bool.false_eq_true, $ts,*])
section
variable {tab : Nat → Option FD} {con : Nat → Option D} {TD : Nat → Nat → Option D} {n : Nat} {st : HSt}
/-! ### what is seen from a box -/
def sfFor (ok : Nm → Nm → Bool) (here : Nm) : List Nm → List Nm → List Nm → List Nm × List Nm
  | [], f, w => (f, w)
  | o :: ns, f, w => if !memS o f && ok here o then sfFor ok here ns (f ++ [o]) (w ++ [o]) else sfFor ok here ns f w
def sfLoop (ns : List Nm) (ok : Nm → Nm → Bool) : Nat → List Nm → List Nm → Option (List Nm)
  | 0, _, _ => none
  | k + 1, f, w => match w.getLast? with
    | none => some f
    | some here => sfLoop ns ok k (sfFor ok here ns f w.dropLast).1 (sfFor ok here ns f w.dropLast).2
def okW (bs : List Bx) (s t : Nm) : Bool := match rowOf bs s, rowOf bs t with
  | some a, some b => nextM a b && letsM a b
  | _, _ => false
def nextW (bs : List Bx) (s t : Nm) : Bool := match rowOf bs s, rowOf bs t with
  | some a, some b => nextM a b
  | _, _ => false
structure TabS (tab : Nat → Option FD) (con : Nat → Option D) : Prop extends TabW tab con where
  h12 : Is tab 12 2 2 b_need_box
  h13 : Is tab 13 2 2 b_need_watcher
  h14 : Is tab 14 3 2 b_row_of
  h15 : Is tab 15 2 2 b_place_of
  h18 : Is tab 18 4 3 b_lets_sight
  h19 : Is tab 19 3 3 b_are_next
  h26 : Is tab 26 6 2 b_seen_from
  h27 : Is tab 27 2 2 b_seen_by_one
  h28 : Is tab 28 2 2 b_seen
theorem notin_strs {s : Nm} {l : List Nm} : nD (inD st (.str s) (.lst (l.map .str))) = some (.bl (!memS s l)) := by rw [in_strs]; rfl
theorem okS_all {l : List Nm} (h : ∀ s ∈ l, okS s = true) : okDs (l.map .str) 59 = true := okDs_strs h
theorem eq_strs_nil {l : List Nm} (h : ∀ s ∈ l, okS s = true) : nD (eqD (.lst (l.map .str)) (.lst [])) = some (.bl (!l.isEmpty)) := by
  have e : eqD (.lst (l.map .str)) (.lst []) = if okD (.lst (l.map .str)) 60 && okD (.lst []) 60 then some (beq (.lst (l.map .str)) (.lst [])) else none := rfl
  have o : okD (.lst (l.map .str)) 60 = true := okDs_strs (k := 59) h
  rw [e, o]
  cases l <;> rfl
def sfE (w : D) (s : Nm) (f wk : List Nm) (x4 x5 : Sl) : EvEnv := [some (false, w), some (false, .str s), some (true, .lst (f.map .str)), some (true, .lst (wk.map .str)), x4, x5]
def sfB : SS := .cons (.iff (.and2 (.bor (.op .notin (.var 5) (.var 2))) (.and2 (.call 19 (.cons (.var 0) (.cons (.var 4) (.cons (.var 5) .nil)))) (.call 18 (.cons (.var 0) (.cons (.var 4) (.cons (.var 5) .nil)))))) (.cons (.app 2 (.var 5)) (.cons (.app 3 (.var 5)) .nil)) .nil) .nil
theorem sf_body (T : TabS tab con) {w : Wr} (hl : w.bs.length ≤ 1000) {s here o : Nm} {f wk : List Nm} (hh : memS here w.ns = true) (ho : memS o w.ns = true) (hf : f.length ≤ 100000) (hw : wk.length ≤ 100000) :
    evSS con ((evC tab con TD 100) (n + 2)) TD 100 (sfE w.d s f wk (some (false, .str here)) (some (false, .str o))) sfB st = .nx (if (!memS o f && okW w.bs here o) = true then sfE w.d s (f ++ [o]) (wk ++ [o]) (some (false, .str here)) (some (false, .str o)) else sfE w.d s f wk (some (false, .str here)) (some (false, .str o))) st := by
  obtain ⟨a, ra, ea, ma⟩ := rowOf_mem hh
  obtain ⟨b, rb, eb, mb⟩ := rowOf_mem ho
  have l1 : f.length < line := by unfold line; omega
  have l2 : wk.length < line := by unfold line; omega
  have k1 := s_next (n := n) (TD := TD) (fu := 100) (st := st) T.toTabW T.h14 T.h19 hl ra rb ea eb
  have k2 := s_lets (n := n) (TD := TD) (fu := 100) (st := st) T.toTabW T.h14 T.h18 hl ra rb ea
  unfold okW
  rw [ra, rb]
  dsimp only
  unfold sfB sfE
  cases q1 : memS o f with
  | true => simp_arith [frz_get, Option.map_some, notin_strs, q1]
  | false =>
    rcases (by cases nextM a b <;> simp : nextM a b = false ∨ nextM a b = true) with q2 | q2
    · simp_arith [frz_get, Option.map_some, notin_strs, q1, k1, q2]
    · rcases (by cases letsM a b <;> simp : letsM a b = false ∨ letsM a b = true) with q3 | q3
      · simp_arith [frz_get, Option.map_some, notin_strs, q1, k1, q2, k2, q3]
      · simp_arith [frz_get, Option.map_some, notin_strs, q1, k1, q2, k2, q3, if_pos l1, if_pos l2]
        simp
theorem sf_for (T : TabS tab con) {w : Wr} (hl : w.bs.length ≤ 1000) {s here : Nm} (hh : memS here w.ns = true) : ∀ (ns : List Nm) (f wk : List Nm) (x5 : Sl), (∀ o ∈ ns, memS o w.ns = true) → f.length + ns.length ≤ 100000 → wk.length + ns.length ≤ 100000 →
    ∃ y5, evFor (fun env st => evSS con ((evC tab con TD 100) (n + 2)) TD 100 env sfB st) (.nm 5) (ns.map .str) (sfE w.d s f wk (some (false, .str here)) x5) st = .nx (sfE w.d s (sfFor (okW w.bs) here ns f wk).1 (sfFor (okW w.bs) here ns f wk).2 (some (false, .str here)) y5) st
  | [], f, wk, x5, _, _, _ => ⟨x5, rfl⟩
  | o :: ns, f, wk, x5, hm, h1, h2 => by
    simp only [List.length_cons] at h1 h2
    have e := sf_body (n := n) (TD := TD) (st := st) T hl (s := s) (here := here) (o := o) (f := f) (wk := wk) hh (hm o (by simp)) (by omega) (by omega)
    rw [List.map_cons, evFor_cons (env' := sfE w.d s f wk (some (false, .str here)) (some (false, .str o))) (by rfl), e, RS.bind_nx]
    unfold sfFor
    cases q : (!memS o f && okW w.bs here o) with
    | true =>
      simp only [if_true]
      exact sf_for T hl hh ns (f ++ [o]) (wk ++ [o]) _ (fun o' h => hm o' (by simp [h])) (by simp; omega) (by simp; omega)
    | false =>
      simp only [Bool.false_eq_true, if_false]
      exact sf_for T hl hh ns f wk _ (fun o' h => hm o' (by simp [h])) (by omega) (by omega)
theorem sfFor_len {ok : Nm → Nm → Bool} {here : Nm} : ∀ (ns f w : List Nm), (sfFor ok here ns f w).1.length ≤ f.length + ns.length ∧ (sfFor ok here ns f w).2.length ≤ w.length + ns.length
  | [], f, w => ⟨Nat.le_refl _, Nat.le_refl _⟩
  | o :: ns, f, w => by
    unfold sfFor
    split
    · obtain ⟨h1, h2⟩ := sfFor_len (ok := ok) (here := here) ns (f ++ [o]) (w ++ [o])
      simp at h1 h2 ⊢; omega
    · obtain ⟨h1, h2⟩ := sfFor_len (ok := ok) (here := here) ns f w
      simp at h1 h2 ⊢; omega
theorem sfFor_mem {ok : Nm → Nm → Bool} {here : Nm} {P : Nm → Prop} : ∀ (ns f w : List Nm), (∀ x ∈ ns, P x) → (∀ x ∈ f, P x) → (∀ x ∈ w, P x) → (∀ x ∈ (sfFor ok here ns f w).1, P x) ∧ ∀ x ∈ (sfFor ok here ns f w).2, P x
  | [], f, w, _, hf, hw => ⟨hf, hw⟩
  | o :: ns, f, w, hn, hf, hw => by
    unfold sfFor
    have ho := hn o (by simp)
    split
    · exact sfFor_mem ns _ _ (fun x hx => hn x (by simp [hx])) (fun x hx => by rcases List.mem_append.mp hx with h | h; exact hf x h; rw [List.mem_singleton.mp h]; exact ho) (fun x hx => by rcases List.mem_append.mp hx with h | h; exact hw x h; rw [List.mem_singleton.mp h]; exact ho)
    · exact sfFor_mem ns _ _ (fun x hx => hn x (by simp [hx])) hf hw
def sfW : SS := .cons (.pop 4 3) (.cons (.for_ (.nm 5) (.seq (.call 10 (.cons (.var 0) .nil))) sfB) .nil)
theorem sf_while (T : TabS tab con) {w : Wr} (hl : w.bs.length ≤ 100) (okn : ∀ s ∈ w.ns, okS s = true) {s : Nm} : ∀ (k : Nat) (f wk : List Nm) (r : List Nm) (x4 x5 : Sl), sfLoop w.ns (okW w.bs) k f wk = some r → (∀ x ∈ f, memS x w.ns = true) → (∀ x ∈ wk, memS x w.ns = true) → f.length + 100 * k ≤ 100000 → wk.length + 100 * k ≤ 100000 →
    ∃ y3 y4 y5, evWhl (fun env st => evE con ((evC tab con TD 100) (n + 2)) TD env (.bor (.op .ne (.var 3) (.lst .nil))) st) (fun env st => evSS con ((evC tab con TD 100) (n + 2)) TD 100 env sfW st) k (sfE w.d s f wk x4 x5) st = .nx (sfE w.d s r y3 y4 y5) st ∧ (∀ x ∈ r, memS x w.ns = true) ∧ r.length ≤ 100000
  | 0, _, _, _, _, _, h, _, _, _, _ => by cases h
  | k + 1, f, wk, r, x4, x5, h, hf, hw, h1, h2 => by
    have okw : ∀ x ∈ wk, okS x = true := fun x hx => okn x (memS_iff.mp (hw x hx))
    have c1 : evE con ((evC tab con TD 100) (n + 2)) TD (sfE w.d s f wk x4 x5) (.bor (.op .ne (.var 3) (.lst .nil))) st = .ok (.bl (!wk.isEmpty)) st := by
      unfold sfE
      simp_arith [frz_get, Option.map_some, eq_strs_nil okw]
    rw [evWhl_succ, c1]
    unfold sfLoop at h
    cases hg : wk.getLast? with
    | none =>
      rw [hg] at h
      cases h
      have : wk = [] := List.getLast?_eq_none_iff.mp hg
      subst this
      exact ⟨[], x4, x5, rfl, hf, by omega⟩
    | some here =>
      rw [hg] at h
      dsimp only at h
      have ne : wk.isEmpty = false := by cases wk with | nil => cases hg | cons _ _ => rfl
      have hm : here ∈ wk := List.mem_of_getLast? hg
      have hn : w.ns.length = w.bs.length := by simp [Wr.ns]
      have hd := List.length_dropLast (xs := wk)
      obtain ⟨y5, e⟩ := sf_for (n := n) (TD := TD) (st := st) T (by omega) (s := s) (hw here hm) w.ns f wk.dropLast x5 (fun o ho => memS_iff.mpr ho) (by omega) (by omega)
      have eb : evSS con ((evC tab con TD 100) (n + 2)) TD 100 (sfE w.d s f wk x4 x5) sfW st = .nx (sfE w.d s (sfFor (okW w.bs) here w.ns f wk.dropLast).1 (sfFor (okW w.bs) here w.ns f wk.dropLast).2 (some (false, .str here)) y5) st := by
        have p1 : evS con ((evC tab con TD 100) (n + 2)) TD 100 (sfE w.d s f wk x4 x5) (.pop 4 3) st = .nx (sfE w.d s f wk.dropLast (some (false, .str here)) x5) st := by
          unfold sfE
          simp_arith []
          unfold popK
          dsimp only
          rw [List.getLast?_map, hg]
          dsimp only [Option.map]
          rw [← List.map_dropLast]
          rfl
        have p2 : evI con ((evC tab con TD 100) (n + 2)) TD (sfE w.d s f wk.dropLast (some (false, .str here)) x5) (.seq (.call 10 (.cons (.var 0) .nil))) st = .ok (w.ns.map .str) st := by
          unfold sfE
          simp_arith [s_box_names T.toTabW (show w.bs.length ≤ 1000 by omega)]
        unfold sfW
        rw [evSS_cons, p1, RS.bind_nx, evSS_cons, evS_for, p2, R.bindS_ok, e, RS.bind_nx, evSS_nil]
      obtain ⟨lf, lw⟩ := sfFor_len (ok := okW w.bs) (here := here) w.ns f wk.dropLast
      obtain ⟨mf, mw⟩ := sfFor_mem (ok := okW w.bs) (here := here) (P := fun x => memS x w.ns = true) w.ns f wk.dropLast (fun x hx => memS_iff.mpr hx) hf (fun x hx => hw x (List.dropLast_subset wk hx))
      obtain ⟨z3, z4, z5, ih, g1, g2⟩ := sf_while T hl okn (s := s) k _ _ r (some (false, .str here)) y5 h mf mw (by omega) (by omega)
      refine ⟨z3, z4, z5, ?_, g1, g2⟩
      simp only [R.bindS_ok, iffK_bl, ne, Bool.not_false, if_true, eb, RS.bind_nx]
      exact ih
theorem s_seen_from (T : TabS tab con) {w : Wr} (hl : w.bs.length ≤ 100) (okn : ∀ s ∈ w.ns, okS s = true) {s : Nm} {r : List Nm} (hs : memS s w.ns = true) (h : sfLoop w.ns (okW w.bs) 100 [s] [s] = some r) (h64 : r.length < 64) : (evC tab con TD 100) (n + 3) 26 [w.d, .str s] st = .ok (.lst ((sortN r).map .str)) st := by
  rw [evC_succ T.h26]
  show (evSS con ((evC tab con TD 100) (n + 2)) TD 100 [some (false, w.d), some (false, .str s), none, none, none, none] (.cons (.par [2, 3] [(true, (.lst (.cons (.var 1) .nil))), (true, (.lst (.cons (.var 1) .nil)))]) (.cons (.whl (.bor (.op .ne (.var 3) (.lst .nil))) sfW) (.cons (.frz 2) (.cons (.ret (.bi .sorted (.cons (.var 2) .nil))) .nil)))) st).out = _
  have one : ∀ x ∈ [s], memS x w.ns = true := fun x hx => by rw [List.mem_singleton.mp hx]; exact hs
  obtain ⟨y3, y4, y5, e, _, _⟩ := sf_while (n := n) (TD := TD) (st := st) T hl okn (s := s) 100 [s] [s] r none none h one one (by simp) (by simp)
  have p1 : evS con ((evC tab con TD 100) (n + 2)) TD 100 [some (false, w.d), some (false, .str s), none, none, none, none] (.par [2, 3] [(true, (.lst (.cons (.var 1) .nil))), (true, (.lst (.cons (.var 1) .nil)))]) st = .nx (sfE w.d s [s] [s] none none) st := by
    simp_arith []
    rfl
  rw [evSS_cons, p1, RS.bind_nx, evSS_cons, evS_whl, e, RS.bind_nx]
  unfold sfE
  simp_arith [allStr_map, if_pos h64]
end
end Ev.Mr
namespace Ev.Mr
local macro_rules | `(tactic| simp_arith [$ts,*]) => `(tactic| simp only [op2_add, op2_sub, op2_mul, op2_fdiv, op2_mod, op2_eq, op2_ne, op2_lt, op2_le, op2_gt, op2_ge, op2_is, op2_isnot, op2_in, op2_notin, op2_idx, bD_some, nD_some, ltD_int, ltD_str, leD_int, bi_len, bi_all, bi_dict, bi_dictT, bi_sorted, bi_tuple, bi_list, bi_max, bi_min, len_tup, len_lst, len_dk, seqI_tup, seqI_lst, seqP_tup, seqP_lst, seqs_tup, seqs_lst, isi_str_str, isi_tup_tup, is_non_non, is_str_non, is_lst_non, is_tup_non, idx_tup, idx_lst, idx_dkS, in_str, obind_some, omap_some, andK_bl, orK_bl, notK_bl, iteK_bl, chnK_bl, iffK_bl, evE_var, varK_some, evE_non, evE_bl, evE_int, evE_str, evE_glob, evE_tup, evE_lst, evE_lstH, evE_dct, evE_op, evE_chn, evE_and2, evE_or2, evE_not, evE_ife, evE_call, evE_bi, evE_isi, evE_slc, evE_rev, revK_lst, evE_skey, skeyK_lst, evE_told, evE_bor, borK_bl, borK_int, frz_nil, frz_none, frz_some, evE_idxO, idxOK_some, evEs_nil, evEs_cons, evI_seq, evI_enum, evI_zip, evI_range, evI_own, ownK_some, bndK_some, evS_set, evS_setO, own_lst, own_dk, evS_par, evPar_nil, evPar_cons, setPar_nil, setPar_cons, evFor_nil, evS_app, appK_some, evS_pop, evS_put, evS_putH, evS_exp, evS_ret, evS_raise, evS_iff, evS_for, evS_whl, evS_frz, frzK_some, evSS_nil, evSS_cons, out_nx, out_rt, out_exc, bindS_exc, R.bind_ok, R.bindS_ok, RS.bind_nx, RS.bind_rt, RS.bind_exc, R.bind_exc, bindS_exc, liftO_some, ite_and, ite_or, List.getElem?_cons_zero, List.getElem?_cons_succ, List.length_map, List.length_cons, List.length_nil, bindT, List.set_cons_zero, List.set_cons_succ, allB_map, allT, if_true, if_false, reduceCtorEq, Nat.reduceAdd, Nat.reduceLT, ↓reduceIte, decide_true, decide_false, Bool.and_true, Bool.true_and, Bool.false_and, Bool.and_false, Bool.or_false, Bool.false_or, Bool.or_true, Bool.true_or, Bool.not_true, Bool.not_false, Bool.false_eq_true, $ts,*])
/-! ### dicts of texts -/
abbrev Ah := List (Nm × Option Nm)
def ahK (a : Ah) : List KY := a.map fun p => .inr p.1
def ahV (a : Ah) : List D := a.map fun p => oD p.2
def ahD (a : Ah) : D := .dk (ahK a) (ahV a)
def look (a : Ah) (s : Nm) : Option (Option Nm) := outOfP a s
theorem hasK_ah {s : Nm} : ∀ {a : Ah}, hasK (ahK a) (.inr s) = memS s (a.map Prod.fst)
  | [] => rfl
  | p :: a => by
    show (eqK (.inr p.1) (.inr s) || hasK (ahK a) (.inr s)) = _
    rw [hasK_ah (a := a)]; rfl
theorem lookK_ah {s : Nm} : ∀ {a : Ah}, lookK (ahK a) (ahV a) (.inr s) = (look a s).map oD
  | [] => rfl
  | p :: a => by
    show (if eqK (.inr p.1) (.inr s) then some (oD p.2) else lookK (ahK a) (ahV a) (.inr s)) = (if eqN p.1 s then some p.2 else outOfP a s).map oD
    rw [lookK_ah (a := a)]
    show (if eqN p.1 s = true then _ else _) = _
    cases eqN p.1 s <;> rfl
section
variable {st : HSt}
theorem idx_ah {s : Nm} {a : Ah} : idxD st (ahD a) (.str s) = (look a s).map oD := lookK_ah
theorem notin_ah {s : Nm} {a : Ah} : nD (inD st (.str s) (ahD a)) = some (.bl (!memS s (a.map Prod.fst))) := by
  show nD ((keyD (.str s)).map (hasK (ahK a))) = _
  show nD (some (hasK (ahK a) (.inr s))) = _
  rw [hasK_ah]; rfl
theorem putO_ah {s h : Nm} {a : Ah} (hl : a.length ≤ 100000) (hm : memS s (a.map Prod.fst) = false) : putO (ahD a) (.str s) (.str h) = some (ahD (a ++ [(s, some h)])) := by
  show (if (ahK a).length < line then (keyD (.str s)).map fun k => D.dk (putD (ahK a) (ahV a) k (.str h)).1 (putD (ahK a) (ahV a) k (.str h)).2 else none) = _
  rw [if_pos (by unfold ahK line; rw [List.length_map]; omega)]
  show some (D.dk (putD (ahK a) (ahV a) (.inr s) (.str h)).1 (putD (ahK a) (ahV a) (.inr s) (.str h)).2) = _
  unfold putD
  rw [hasK_ah, hm]
  simp [ahD, ahK, ahV, oD]
/-! ### pairs of texts as a dict -/
theorem pairsK_w : ∀ {l : List (Nm × Nm)}, pairsK (l.map wD) = some (l.map fun p => (.inr p.1, .str p.2))
  | [] => rfl
  | p :: l => by
    show (keyD (.str p.1)).bind (fun k => (pairsK (l.map wD)).map ((k, D.str p.2) :: ·)) = _
    rw [pairsK_w (l := l)]; rfl
def toAh (l : List (Nm × Nm)) : Ah := l.map fun p => (p.1, some p.2)
theorem fst_toAh (l : List (Nm × Nm)) : (toAh l).map Prod.fst = l.map Prod.fst := by unfold toAh; rw [List.map_map]; rfl
theorem putAll_w : ∀ {l pre : List (Nm × Nm)}, distN (l.map Prod.fst) = true → (∀ x ∈ l, memS x.1 (pre.map Prod.fst) = false) → putAll (l.map fun p => (.inr p.1, .str p.2)) (ahK (toAh pre), ahV (toAh pre)) = (ahK (toAh (pre ++ l)), ahV (toAh (pre ++ l)))
  | [], pre, _, _ => by simp [putAll]
  | x :: l, pre, hd, hn => by
    simp only [List.map_cons, distN, Bool.and_eq_true, Bool.not_eq_true'] at hd
    have hp : putD (ahK (toAh pre)) (ahV (toAh pre)) (.inr x.1) (.str x.2) = (ahK (toAh (pre ++ [x])), ahV (toAh (pre ++ [x]))) := by
      unfold putD
      rw [hasK_ah, fst_toAh, hn x (by simp)]
      simp [ahK, ahV, toAh, oD]
    have ih := putAll_w (l := l) (pre := pre ++ [x]) hd.2 (fun y hy => by
      rw [List.map_append, memS_append, hn y (by simp [hy])]
      show (false || (eqN x.1 y.1 || false)) = false
      cases q : eqN x.1 y.1 with
      | false => rfl
      | true =>
        rw [eqN_iff] at q
        have : memS x.1 (l.map Prod.fst) = true := memS_iff.mpr (by rw [q]; exact List.mem_map.mpr ⟨y, hy, rfl⟩)
        rw [hd.1] at this; cases this)
    show putAll (l.map fun p => (.inr p.1, .str p.2)) (putD (ahK (toAh pre)) (ahV (toAh pre)) (.inr x.1) (.str x.2)) = _
    rw [hp, ih, List.append_assoc]; rfl
theorem dict_ws {l : List (Nm × Nm)} (hd : distN (l.map Prod.fst) = true) : biD st .dict [.tup (l.map wD)] = some (ahD (toAh l)) := by
  have k := putAll_w (l := l) (pre := []) hd (fun _ _ => rfl)
  have k : putAll (l.map fun p => (.inr p.1, .str p.2)) ([], []) = (ahK (toAh l), ahV (toAh l)) := k
  rw [bi_dictT, pairsK_w]
  dsimp only [Option.map]
  rw [k]; rfl
end
def placeOf (l : List (Nm × Nm)) (s : Nm) : Option Nm := (l.find? fun p => eqN p.1 s).map Prod.snd
theorem look_toAh {s : Nm} : ∀ {l : List (Nm × Nm)}, look (toAh l) s = (placeOf l s).map some
  | [] => rfl
  | p :: l => by
    show (if eqN p.1 s then some (some p.2) else look (toAh l) s) = ((List.find? (fun p => eqN p.1 s) (p :: l)).map Prod.snd).map some
    rw [look_toAh (l := l), List.find?_cons]
    cases eqN p.1 s <;> rfl
section
variable {tab : Nat → Option FD} {con : Nat → Option D} {TD : Nat → Nat → Option D} {n : Nat} {st : HSt}
theorem s_place_of (h : Is tab 15 2 2 b_place_of) {w : Wr} (hd : distN (w.ws.map Prod.fst) = true) {s p : Nm} (hp : placeOf w.ws s = some p) : (evC tab con TD 100) (n + 1) 15 [w.d, .str s] st = .ok (.str p) st := by
  rw [evC_succ h]
  show (evSS con ((evC tab con TD 100) n) TD 100 [some (false, w.d), some (false, .str s)] b_place_of st).out = _
  unfold b_place_of
  have k := dict_ws (st := st) hd
  have e : idxD st (ahD (toAh w.ws)) (.str s) = some (.str p) := by rw [idx_ah, look_toAh, hp]; rfl
  simp only [bi_dictT] at k
  simp_arith [idxW1, k, e]
theorem s_need_watcher (T : TabW tab con) (h : Is tab 13 2 2 b_need_watcher) {w : Wr} (hl : w.ws.length ≤ 1000) {s : Nm} (hs : memS s (w.ws.map Prod.fst) = true) : (evC tab con TD 100) (n + 2) 13 [w.d, .str s] st = .ok .non st := by
  rw [evC_succ h]
  show (evSS con ((evC tab con TD 100) (n + 1)) TD 100 [some (false, w.d), some (false, .str s)] b_need_watcher st).out = _
  unfold b_need_watcher
  have := in_strs (st := st) (s := s) (l := w.ws.map Prod.fst)
  rw [show (w.ws.map Prod.fst).any (eqN · s) = true from hs] at this
  simp_arith [s_watcher_names T hl, s_is_one_of T this]
def seenM (w : Wr) (s : Nm) : List Nm := match sfLoop w.ns (okW w.bs) 100 [s] [s] with
  | some r => sortN r
  | none => []
/-- what the next theorems ask of a world -/
structure GoodS (w : Wr) : Prop extends GoodW 100 w where
  few : w.bs.length ≤ 60
  okn : ∀ s ∈ w.ns, okS s = true
  wdist : distN (w.ws.map Prod.fst) = true
  ends : ∀ s, memS s w.ns = true → ∃ r, sfLoop w.ns (okW w.bs) 100 [s] [s] = some r ∧ r.length < 64
theorem s_seen_by_one (T : TabS tab con) {w : Wr} (g : GoodS w) {s p : Nm} (hp : placeOf w.ws s = some p) (hm : memS p w.ns = true) : (evC tab con TD 100) (n + 4) 27 [w.d, .str s] st = .ok (.lst ((seenM w p).map .str)) st := by
  rw [evC_succ T.h27]
  show (evSS con ((evC tab con TD 100) (n + 3)) TD 100 [some (false, w.d), some (false, .str s)] b_seen_by_one st).out = _
  unfold b_seen_by_one
  obtain ⟨r, e1, e2⟩ := g.ends p hm
  have few := g.few
  have k := s_seen_from (n := n) (TD := TD) (st := st) T (by omega) g.okn hm e1 e2
  simp_arith [s_place_of T.h15 g.wdist hp, k]
  unfold seenM
  rw [e1]
theorem s_seen (T : TabS tab con) {w : Wr} (g : GoodS w) {s p : Nm} (hp : placeOf w.ws s = some p) (hm : memS p w.ns = true) (hs : memS s (w.ws.map Prod.fst) = true) : (evC tab con TD 100) (n + 6) 28 [w.d, .str s] st = .ok (.lst ((seenM w p).map .str)) st := by
  rw [evC_succ T.h28]
  show (evSS con ((evC tab con TD 100) (n + 5)) TD 100 [some (false, w.d), some (false, .str s)] b_seen st).out = _
  unfold b_seen
  simp_arith [s_need_world T.toTabW g.toGoodW, s_need_watcher T.toTabW T.h13 g.wlen hs, s_seen_by_one T g hp hm]
/-! ### the way between two boxes -/
def pbFor (nx : Nm → Nm → Bool) (here : Nm) : List Nm → Ah → List Nm → Ah × List Nm
  | [], a, w => (a, w)
  | o :: ns, a, w => if !memS o (a.map Prod.fst) && nx here o then pbFor nx here ns (a ++ [(o, some here)]) (w ++ [o]) else pbFor nx here ns a w
def pbLoop (ns : List Nm) (nx : Nm → Nm → Bool) : Nat → Ah → List Nm → Option Ah
  | 0, _, _ => none
  | k + 1, a, w => match w.getLast? with
    | none => some a
    | some here => pbLoop ns nx k (pbFor nx here ns a w.dropLast).1 (pbFor nx here ns a w.dropLast).2
def pbBack (a : Ah) : Nat → List Nm → Option (List Nm)
  | 0, _ => none
  | k + 1, f => match f with
    | [] => none
    | x :: f => match look a x with
      | none => none
      | some none => some (x :: f)
      | some (some y) => pbBack a k (y :: x :: f)
def pathM (ns : List Nm) (nx : Nm → Nm → Bool) (s t : Nm) : Option (List Nm) := (pbLoop ns nx 100 [(s, none)] [s]).bind fun a => pbBack a 100 [t]
def pbE (w : D) (s t : Nm) (x3 : Sl) (a : Ah) (wk : List Nm) (x6 x7 : Sl) : EvEnv := [some (false, w), some (false, .str s), some (false, .str t), x3, some (true, ahD a), some (true, .lst (wk.map .str)), x6, x7]
def pbB : SS := .cons (.iff (.and2 (.bor (.op .notin (.var 7) (.var 4))) (.call 19 (.cons (.var 0) (.cons (.var 6) (.cons (.var 7) .nil))))) (.cons (.put 4 (.var 7) (.var 6)) (.cons (.app 5 (.var 7)) .nil)) .nil) .nil
theorem pb_body (T : TabS tab con) {w : Wr} (hl : w.bs.length ≤ 1000) {s t here o : Nm} {x3 : Sl} {a : Ah} {wk : List Nm} (hh : memS here w.ns = true) (ho : memS o w.ns = true) (hf : a.length ≤ 100000) (hw : wk.length ≤ 100000) :
    evSS con ((evC tab con TD 100) (n + 2)) TD 100 (pbE w.d s t x3 a wk (some (false, .str here)) (some (false, .str o))) pbB st = .nx (if (!memS o (a.map Prod.fst) && nextW w.bs here o) = true then pbE w.d s t x3 (a ++ [(o, some here)]) (wk ++ [o]) (some (false, .str here)) (some (false, .str o)) else pbE w.d s t x3 a wk (some (false, .str here)) (some (false, .str o))) st := by
  obtain ⟨u, ra, ea, ma⟩ := rowOf_mem hh
  obtain ⟨v, rb, eb, mb⟩ := rowOf_mem ho
  have l2 : wk.length < line := by unfold line; omega
  have k1 := s_next (n := n) (TD := TD) (fu := 100) (st := st) T.toTabW T.h14 T.h19 hl ra rb ea eb
  unfold nextW
  rw [ra, rb]
  dsimp only
  unfold pbB pbE
  cases q1 : memS o (a.map Prod.fst) with
  | true => simp_arith [frz_get, Option.map_some, notin_ah, q1]
  | false =>
    rcases (by cases nextM u v <;> simp : nextM u v = false ∨ nextM u v = true) with q2 | q2
    · simp_arith [frz_get, Option.map_some, notin_ah, q1, k1, q2]
    · have p := putO_ah (s := o) (h := here) hf q1
      simp_arith [frz_get, Option.map_some, notin_ah, q1, k1, q2, putK, p, if_pos l2]
      simp
theorem pb_for (T : TabS tab con) {w : Wr} (hl : w.bs.length ≤ 1000) {s t here : Nm} {x3 : Sl} (hh : memS here w.ns = true) : ∀ (ns : List Nm) (a : Ah) (wk : List Nm) (x7 : Sl), (∀ o ∈ ns, memS o w.ns = true) → a.length + ns.length ≤ 100000 → wk.length + ns.length ≤ 100000 →
    ∃ y7, evFor (fun env st => evSS con ((evC tab con TD 100) (n + 2)) TD 100 env pbB st) (.nm 7) (ns.map .str) (pbE w.d s t x3 a wk (some (false, .str here)) x7) st = .nx (pbE w.d s t x3 (pbFor (nextW w.bs) here ns a wk).1 (pbFor (nextW w.bs) here ns a wk).2 (some (false, .str here)) y7) st
  | [], a, wk, x7, _, _, _ => ⟨x7, rfl⟩
  | o :: ns, a, wk, x7, hm, h1, h2 => by
    simp only [List.length_cons] at h1 h2
    have e := pb_body (n := n) (TD := TD) (st := st) T hl (s := s) (t := t) (x3 := x3) (here := here) (o := o) (a := a) (wk := wk) hh (hm o (by simp)) (by omega) (by omega)
    rw [List.map_cons, evFor_cons (env' := pbE w.d s t x3 a wk (some (false, .str here)) (some (false, .str o))) (by rfl), e, RS.bind_nx]
    unfold pbFor
    cases q : (!memS o (a.map Prod.fst) && nextW w.bs here o) with
    | true =>
      simp only [if_true]
      exact pb_for T hl hh ns (a ++ [(o, some here)]) (wk ++ [o]) _ (fun o' h => hm o' (by simp [h])) (by simp; omega) (by simp; omega)
    | false =>
      simp only [Bool.false_eq_true, if_false]
      exact pb_for T hl hh ns a wk _ (fun o' h => hm o' (by simp [h])) (by omega) (by omega)
theorem pbFor_len {nx : Nm → Nm → Bool} {here : Nm} : ∀ (ns : List Nm) (a : Ah) (w : List Nm), (pbFor nx here ns a w).1.length ≤ a.length + ns.length ∧ (pbFor nx here ns a w).2.length ≤ w.length + ns.length
  | [], a, w => ⟨Nat.le_refl _, Nat.le_refl _⟩
  | o :: ns, a, w => by
    unfold pbFor
    split
    · obtain ⟨h1, h2⟩ := pbFor_len (nx := nx) (here := here) ns (a ++ [(o, some here)]) (w ++ [o])
      simp at h1 h2 ⊢; omega
    · obtain ⟨h1, h2⟩ := pbFor_len (nx := nx) (here := here) ns a w
      simp at h1 h2 ⊢; omega
theorem pbFor_mem {nx : Nm → Nm → Bool} {here : Nm} {P : Nm → Prop} : ∀ (ns : List Nm) (a : Ah) (w : List Nm), (∀ x ∈ ns, P x) → (∀ x ∈ w, P x) → ∀ x ∈ (pbFor nx here ns a w).2, P x
  | [], a, w, _, hw => hw
  | o :: ns, a, w, hn, hw => by
    unfold pbFor
    have ho := hn o (by simp)
    split
    · exact pbFor_mem ns _ _ (fun x hx => hn x (by simp [hx])) (fun x hx => by rcases List.mem_append.mp hx with h | h; exact hw x h; rw [List.mem_singleton.mp h]; exact ho)
    · exact pbFor_mem ns _ _ (fun x hx => hn x (by simp [hx])) hw
def pbW : SS := .cons (.pop 6 5) (.cons (.for_ (.nm 7) (.seq (.call 10 (.cons (.var 0) .nil))) pbB) .nil)
theorem pb_while (T : TabS tab con) {w : Wr} (hl : w.bs.length ≤ 100) (okn : ∀ s ∈ w.ns, okS s = true) {s t : Nm} {x3 : Sl} : ∀ (k : Nat) (a : Ah) (wk : List Nm) (r : Ah) (x6 x7 : Sl), pbLoop w.ns (nextW w.bs) k a wk = some r → (∀ x ∈ wk, memS x w.ns = true) → a.length + 100 * k ≤ 100000 → wk.length + 100 * k ≤ 100000 →
    ∃ y5 y6 y7, evWhl (fun env st => evE con ((evC tab con TD 100) (n + 2)) TD env (.bor (.op .ne (.var 5) (.lst .nil))) st) (fun env st => evSS con ((evC tab con TD 100) (n + 2)) TD 100 env pbW st) k (pbE w.d s t x3 a wk x6 x7) st = .nx (pbE w.d s t x3 r y5 y6 y7) st
  | 0, _, _, _, _, _, h, _, _, _ => by cases h
  | k + 1, a, wk, r, x6, x7, h, hw, h1, h2 => by
    have okw : ∀ x ∈ wk, okS x = true := fun x hx => okn x (memS_iff.mp (hw x hx))
    have c1 : evE con ((evC tab con TD 100) (n + 2)) TD (pbE w.d s t x3 a wk x6 x7) (.bor (.op .ne (.var 5) (.lst .nil))) st = .ok (.bl (!wk.isEmpty)) st := by
      unfold pbE
      simp_arith [frz_get, Option.map_some, eq_strs_nil okw]
    rw [evWhl_succ, c1]
    unfold pbLoop at h
    cases hg : wk.getLast? with
    | none =>
      rw [hg] at h
      cases h
      have : wk = [] := List.getLast?_eq_none_iff.mp hg
      subst this
      exact ⟨[], x6, x7, rfl⟩
    | some here =>
      rw [hg] at h
      dsimp only at h
      have ne : wk.isEmpty = false := by cases wk with | nil => cases hg | cons _ _ => rfl
      have hm : here ∈ wk := List.mem_of_getLast? hg
      have hn : w.ns.length = w.bs.length := by simp [Wr.ns]
      have hd := List.length_dropLast (xs := wk)
      obtain ⟨y7, e⟩ := pb_for (n := n) (TD := TD) (st := st) T (by omega) (s := s) (t := t) (x3 := x3) (hw here hm) w.ns a wk.dropLast x7 (fun o ho => memS_iff.mpr ho) (by omega) (by omega)
      have eb : evSS con ((evC tab con TD 100) (n + 2)) TD 100 (pbE w.d s t x3 a wk x6 x7) pbW st = .nx (pbE w.d s t x3 (pbFor (nextW w.bs) here w.ns a wk.dropLast).1 (pbFor (nextW w.bs) here w.ns a wk.dropLast).2 (some (false, .str here)) y7) st := by
        have p1 : evS con ((evC tab con TD 100) (n + 2)) TD 100 (pbE w.d s t x3 a wk x6 x7) (.pop 6 5) st = .nx (pbE w.d s t x3 a wk.dropLast (some (false, .str here)) x7) st := by
          unfold pbE
          simp_arith []
          unfold popK
          dsimp only
          rw [List.getLast?_map, hg]
          dsimp only [Option.map]
          rw [← List.map_dropLast]
          rfl
        have p2 : evI con ((evC tab con TD 100) (n + 2)) TD (pbE w.d s t x3 a wk.dropLast (some (false, .str here)) x7) (.seq (.call 10 (.cons (.var 0) .nil))) st = .ok (w.ns.map .str) st := by
          unfold pbE
          simp_arith [s_box_names T.toTabW (show w.bs.length ≤ 1000 by omega)]
        unfold pbW
        rw [evSS_cons, p1, RS.bind_nx, evSS_cons, evS_for, p2, R.bindS_ok, e, RS.bind_nx, evSS_nil]
      obtain ⟨lf, lw⟩ := pbFor_len (nx := nextW w.bs) (here := here) w.ns a wk.dropLast
      have mw := pbFor_mem (nx := nextW w.bs) (here := here) (P := fun x => memS x w.ns = true) w.ns a wk.dropLast (fun x hx => memS_iff.mpr hx) (fun x hx => hw x (List.dropLast_subset wk hx))
      obtain ⟨z5, z6, z7, ih⟩ := pb_while T hl okn (s := s) (t := t) (x3 := x3) k _ _ r (some (false, .str here)) y7 h mw (by omega) (by omega)
      refine ⟨z5, z6, z7, ?_⟩
      simp only [R.bindS_ok, iffK_bl, ne, Bool.not_false, if_true, eb, RS.bind_nx]
      exact ih
def pbF (w : D) (s t : Nm) (f : List Nm) (a : Ah) (x5 : Sl) (x6 x7 : Sl) : EvEnv := [some (false, w), some (false, .str s), some (false, .str t), some (false, .lst (f.map .str)), some (true, ahD a), x5, x6, x7]
theorem idx_l0 {x : Nm} {f : List Nm} : idxD st (.lst ((x :: f).map .str)) (.int 0) = some (.str x) := by
  rw [idx_lst]
  simp [idxN, List.map_cons]
theorem pb_back {C : CT} {w : D} {s t : Nm} {a : Ah} {x5 x6 x7 : Sl} : ∀ (k : Nat) (f r : List Nm), pbBack a k f = some r → f.length + k ≤ 100000 →
    evWhl (fun env st => evE con C TD env (.bor (.op .isnot (.op .idx (.var 4) (.op .idx (.var 3) (.int 0))) .non)) st) (fun env st => evSS con C TD 100 env (.cons (.set (.nm 3) (.op .add (.lst (.cons (.idxO 4 (.op .idx (.var 3) (.int 0))) .nil)) (.var 3))) .nil) st) k (pbF w s t f a x5 x6 x7) st = .nx (pbF w s t r a x5 x6 x7) st
  | 0, _, _, h, _ => by cases h
  | k + 1, [], _, h, _ => by cases h
  | k + 1, x :: f, r, h, hl => by
    unfold pbBack at h
    dsimp only at h
    have i0 := idx_l0 (st := st) (x := x) (f := f)
    simp only [idx_lst, List.length_map, List.length_cons] at i0
    simp only [List.length_cons] at hl
    cases q : look a x with
    | none => rw [q] at h; cases h
    | some o =>
      rw [q] at h
      have c1 : evE con C TD (pbF w s t (x :: f) a x5 x6 x7) (.bor (.op .isnot (.op .idx (.var 4) (.op .idx (.var 3) (.int 0))) .non)) st = .ok (.bl o.isSome) st := by
        unfold pbF
        simp_arith [frz_get, Option.map_some, i0, idx_ah, q, isnot_oD]
      rw [evWhl_succ, c1]
      cases o with
      | none => cases h; rfl
      | some y =>
        have hadd : addD (.lst [.str y]) (.lst ((x :: f).map .str)) = some (.lst ((y :: x :: f).map .str)) := by
          show (if ([D.str y] : List D).length + ((x :: f).map D.str).length ≤ line then _ else _) = _
          rw [if_pos (by simp; unfold line; omega)]; rfl
        have e : evSS con C TD 100 (pbF w s t (x :: f) a x5 x6 x7) (.cons (.set (.nm 3) (.op .add (.lst (.cons (.idxO 4 (.op .idx (.var 3) (.int 0))) .nil)) (.var 3))) .nil) st = .nx (pbF w s t (y :: x :: f) a x5 x6 x7) st := by
          unfold pbF
          simp_arith [i0, idx_ah, q, oD, hadd]
        simp only [R.bindS_ok, iffK_bl, Option.isSome, if_true, e, RS.bind_nx]
        exact pb_back k (y :: x :: f) r h (by simp; omega)
theorem s_path (T : TabS tab con) (h62 : Is tab 62 8 3 b_path_between) {w : Wr} (hl : w.bs.length ≤ 100) (okn : ∀ s ∈ w.ns, okS s = true) {s t : Nm} {r : List Nm} (hs : memS s w.ns = true) (h : pathM w.ns (nextW w.bs) s t = some r) : (evC tab con TD 100) (n + 3) 62 [w.d, .str s, .str t] st = .ok (.lst (r.map .str)) st := by
  rw [evC_succ h62]
  unfold pathM at h
  obtain ⟨a, h1, h2⟩ := Option.bind_eq_some_iff.mp h
  obtain ⟨y5, y6, y7, e⟩ := pb_while (n := n) (con := con) (TD := TD) (st := st) T hl okn (s := s) (t := t) (x3 := none) 100 [(s, none)] [s] a none none h1 (fun x hx => by rw [List.mem_singleton.mp hx]; exact hs) (by simp) (by simp)
  have e2 := pb_back (con := con) (C := (evC tab con TD 100) (n + 2)) (TD := TD) (st := st) (w := w.d) (s := s) (t := t) (x5 := some (true, .lst (y5.map .str))) (x6 := y6) (x7 := y7) 100 [t] r h2 (by simp)
  show (evSS con ((evC tab con TD 100) (n + 2)) TD 100 [some (false, w.d), some (false, .str s), some (false, .str t), none, none, none, none, none] (.cons (.par [4, 5] [(true, (.dct1 1)), (true, (.lst (.cons (.var 1) .nil)))]) (.cons (.whl (.bor (.op .ne (.var 5) (.lst .nil))) pbW) (.cons (.set (.nm 3) (.lst (.cons (.var 2) .nil)))
    (.cons (.whl (.bor (.op .isnot (.op .idx (.var 4) (.op .idx (.var 3) (.int 0))) .non)) (.cons (.set (.nm 3) (.op .add (.lst (.cons (.idxO 4 (.op .idx (.var 3) (.int 0))) .nil)) (.var 3))) .nil)) (.cons (.ret (.var 3)) .nil))))) st).out = _
  have d1 : evE con ((evC tab con TD 100) (n + 2)) TD [some (false, w.d), some (false, .str s), some (false, .str t), none, none, none, none, none] (.dct1 1) st = .ok (.dk [.inr s] [.non]) st := by simp only [evE]; rfl
  have p1 : evS con ((evC tab con TD 100) (n + 2)) TD 100 [some (false, w.d), some (false, .str s), some (false, .str t), none, none, none, none, none] (.par [4, 5] [(true, (.dct1 1)), (true, (.lst (.cons (.var 1) .nil)))]) st = .nx (pbE w.d s t none [(s, none)] [s] none none) st := by
    simp_arith [d1]
    rfl
  have p2 : evS con ((evC tab con TD 100) (n + 2)) TD 100 (pbE w.d s t none a y5 y6 y7) (.set (.nm 3) (.lst (.cons (.var 2) .nil))) st = .nx (pbF w.d s t [t] a (some (true, .lst (y5.map .str))) y6 y7) st := by
    unfold pbE
    simp_arith []
    rfl
  rw [evSS_cons, p1, RS.bind_nx, evSS_cons, evS_whl, e, RS.bind_nx, evSS_cons, p2, RS.bind_nx, evSS_cons, evS_whl, e2, RS.bind_nx]
  unfold pbF
  simp_arith []
end
end Ev.Mr
namespace Ev.Mr
local macro_rules | `(tactic| simp_arith [$ts,*]) => `(tactic| simp only [op2_add, op2_sub, op2_mul, op2_fdiv, op2_mod, op2_eq, op2_ne, op2_lt, op2_le, op2_gt, op2_ge, op2_is, op2_isnot, op2_in, op2_notin, op2_idx, bD_some, nD_some, ltD_int, ltD_str, leD_int, bi_len, bi_all, bi_dict, bi_dictT, bi_sorted, bi_tuple, bi_list, bi_max, bi_min, len_tup, len_lst, len_dk, seqI_tup, seqI_lst, seqP_tup, seqP_lst, seqs_tup, seqs_lst, isi_str_str, isi_tup_tup, is_non_non, is_str_non, is_lst_non, is_tup_non, idx_tup, idx_lst, idx_dkS, in_str, obind_some, omap_some, andK_bl, orK_bl, notK_bl, iteK_bl, chnK_bl, iffK_bl, evE_var, varK_some, evE_non, evE_bl, evE_int, evE_str, evE_glob, evE_tup, evE_lst, evE_lstH, evE_dct, evE_op, evE_chn, evE_and2, evE_or2, evE_not, evE_ife, evE_call, evE_bi, evE_isi, evE_slc, evE_rev, revK_lst, evE_skey, skeyK_lst, evE_told, evE_bor, borK_bl, borK_int, frz_nil, frz_none, frz_some, evE_idxO, idxOK_some, evEs_nil, evEs_cons, evI_seq, evI_enum, evI_zip, evI_range, evI_own, ownK_some, bndK_some, evS_set, evS_setO, own_lst, own_dk, evS_par, evPar_nil, evPar_cons, setPar_nil, setPar_cons, evFor_nil, evS_app, appK_some, evS_pop, evS_put, evS_putH, evS_exp, evS_ret, evS_raise, evS_iff, evS_for, evS_whl, evS_frz, frzK_some, evSS_nil, evSS_cons, out_nx, out_rt, out_exc, bindS_exc, R.bind_ok, R.bindS_ok, RS.bind_nx, RS.bind_rt, RS.bind_exc, R.bind_exc, bindS_exc, liftO_some, ite_and, ite_or, List.getElem?_cons_zero, List.getElem?_cons_succ, List.length_map, List.length_cons, List.length_nil, bindT, List.set_cons_zero, List.set_cons_succ, allB_map, allT, if_true, if_false, reduceCtorEq, Nat.reduceAdd, Nat.reduceLT, ↓reduceIte, decide_true, decide_false, Bool.and_true, Bool.true_and, Bool.false_and, Bool.and_false, Bool.or_false, Bool.false_or, Bool.or_true, Bool.true_or, Bool.not_true, Bool.not_false, Bool.false_eq_true, $ts,*])
/-! ### the search for what is seen ends, and finds what lies behind clear borders -/
theorem mem_insN {x y : Nm} : ∀ {l : List Nm}, y ∈ insN x l ↔ y = x ∨ y ∈ l
  | [] => by simp [insN]
  | z :: l => by
    simp only [insN]
    split
    · simp only [List.mem_cons, mem_insN (l := l)]
      constructor <;> (intro h; rcases h with h | h | h <;> simp [h])
    · simp
theorem mem_sortN {y : Nm} : ∀ {l : List Nm}, y ∈ sortN l ↔ y ∈ l
  | [] => by simp [sortN]
  | z :: l => by simp only [sortN, mem_insN, mem_sortN (l := l), List.mem_cons]
def unseen (ns f : List Nm) : Nat := (ns.filter fun x => !memS x f).length
theorem unseen_le (ns f : List Nm) : unseen ns f ≤ ns.length := List.length_filter_le _ _
theorem unseen_cons {x : Nm} {ns f : List Nm} : unseen (x :: ns) f = (if memS x f then 0 else 1) + unseen ns f := by
  unfold unseen
  rw [List.filter_cons]
  cases memS x f <;> simp <;> omega
theorem unseen_mono {f : List Nm} {o : Nm} : ∀ {ns : List Nm}, unseen ns (f ++ [o]) ≤ unseen ns f
  | [] => Nat.le_refl _
  | x :: ns => by
    have ih := unseen_mono (f := f) (o := o) (ns := ns)
    rw [unseen_cons, unseen_cons, memS_append]
    cases memS x f <;> cases memS x [o] <;> simp <;> omega
theorem unseen_push {f : List Nm} {o : Nm} (hf : memS o f = false) : ∀ {ns : List Nm}, o ∈ ns → unseen ns (f ++ [o]) + 1 ≤ unseen ns f
  | [], h => by simp at h
  | x :: ns, h => by
    have mo := unseen_mono (f := f) (o := o) (ns := ns)
    rw [unseen_cons, unseen_cons, memS_append]
    by_cases e : x = o
    · subst e
      have m : memS x [x] = true := memS_iff.mpr (by simp)
      rw [hf, m]
      simp; omega
    · have h' : o ∈ ns := by
        rcases List.mem_cons.mp h with q | q
        · exact absurd q.symm e
        · exact q
      have ih := unseen_push hf h'
      cases memS x f <;> cases memS x [o] <;> simp <;> omega
theorem sfFor_meas {ok : Nm → Nm → Bool} {here : Nm} {ns : List Nm} : ∀ (os f w : List Nm), (∀ o ∈ os, o ∈ ns) →
    unseen ns (sfFor ok here os f w).1 + (sfFor ok here os f w).2.length ≤ unseen ns f + w.length ∧ unseen ns (sfFor ok here os f w).1 + (sfFor ok here os f w).1.length ≤ unseen ns f + f.length
  | [], f, w, _ => ⟨Nat.le_refl _, Nat.le_refl _⟩
  | o :: os, f, w, h => by
    have ho := h o (by simp)
    have hs : ∀ x ∈ os, x ∈ ns := fun x hx => h x (by simp [hx])
    unfold sfFor
    cases q : (!memS o f && ok here o) with
    | false =>
      simp only [Bool.false_eq_true, if_false]
      exact sfFor_meas os f w hs
    | true =>
      simp only [if_true]
      simp only [Bool.and_eq_true, Bool.not_eq_true'] at q
      obtain ⟨h1, h2⟩ := sfFor_meas (ok := ok) (here := here) os (f ++ [o]) (w ++ [o]) hs
      have := unseen_push q.1 ho
      simp only [List.length_append, List.length_cons, List.length_nil] at h1 h2
      omega
theorem sfLoop_ends {ok : Nm → Nm → Bool} {ns : List Nm} : ∀ (k : Nat) (f w : List Nm), unseen ns f + w.length < k → ∃ r, sfLoop ns ok k f w = some r ∧ r.length ≤ unseen ns f + f.length
  | 0, f, w, h => by omega
  | k + 1, f, w, h => by
    unfold sfLoop
    cases hg : w.getLast? with
    | none => exact ⟨f, rfl, by omega⟩
    | some here =>
      dsimp only
      have hd := List.length_dropLast (xs := w)
      have hp : 0 < w.length := by cases w with | nil => cases hg | cons _ _ => simp
      obtain ⟨h1, h2⟩ := sfFor_meas (ok := ok) (here := here) (ns := ns) ns f w.dropLast (fun _ h => h)
      obtain ⟨r, e1, e2⟩ := sfLoop_ends (ok := ok) (ns := ns) k (sfFor ok here ns f w.dropLast).1 (sfFor ok here ns f w.dropLast).2 (by omega)
      exact ⟨r, e1, by omega⟩
theorem sfFor_in {ok : Nm → Nm → Bool} {here : Nm} : ∀ (os f w : List Nm),
    (∀ x ∈ f, x ∈ (sfFor ok here os f w).1) ∧ (∀ x ∈ w, x ∈ (sfFor ok here os f w).2) ∧ (∀ o ∈ os, ok here o = true → o ∈ (sfFor ok here os f w).1) ∧ (∀ x ∈ (sfFor ok here os f w).1, x ∈ f ∨ (x ∈ (sfFor ok here os f w).2 ∧ ok here x = true))
  | [], f, w => ⟨fun _ h => h, fun _ h => h, fun _ h => by simp at h, fun _ h => .inl h⟩
  | o :: os, f, w => by
    unfold sfFor
    cases q : (!memS o f && ok here o) with
    | false =>
      simp only [Bool.false_eq_true, if_false]
      obtain ⟨h1, h2, h3, h4⟩ := sfFor_in (ok := ok) (here := here) os f w
      refine ⟨h1, h2, fun x hx hk => ?_, h4⟩
      rcases List.mem_cons.mp hx with rfl | hx
      · rw [hk, Bool.and_true, Bool.not_eq_false'] at q
        exact h1 _ (memS_iff.mp q)
      · exact h3 x hx hk
    | true =>
      simp only [if_true]
      simp only [Bool.and_eq_true, Bool.not_eq_true'] at q
      obtain ⟨h1, h2, h3, h4⟩ := sfFor_in (ok := ok) (here := here) os (f ++ [o]) (w ++ [o])
      refine ⟨fun x hx => h1 x (by simp [hx]), fun x hx => h2 x (by simp [hx]), fun x hx hk => ?_, fun x hx => ?_⟩
      · rcases List.mem_cons.mp hx with rfl | hx
        · exact h1 _ (by simp)
        · exact h3 x hx hk
      · rcases h4 x hx with h | h
        · rcases List.mem_append.mp h with h | h
          · exact .inl h
          · rw [List.mem_singleton] at h
            subst h
            exact .inr ⟨h2 _ (by simp), q.2⟩
        · exact .inr h
/-- each found box is worked at, or has all its next ones -/
theorem sfLoop_closed {ok : Nm → Nm → Bool} {ns : List Nm} : ∀ (k : Nat) (f w r : List Nm), sfLoop ns ok k f w = some r → (∀ x ∈ f, x ∈ w ∨ ∀ o ∈ ns, ok x o = true → o ∈ f) → (∀ x ∈ f, x ∈ r) ∧ ∀ x ∈ r, ∀ o ∈ ns, ok x o = true → o ∈ r
  | 0, _, _, _, h, _ => by cases h
  | k + 1, f, w, r, h, inv => by
    unfold sfLoop at h
    cases hg : w.getLast? with
    | none =>
      rw [hg] at h
      cases h
      have : w = [] := List.getLast?_eq_none_iff.mp hg
      subst this
      refine ⟨fun _ h => h, fun x hx => ?_⟩
      rcases inv x hx with h | h
      · simp at h
      · exact h
    | some here =>
      rw [hg] at h
      dsimp only at h
      obtain ⟨h1, h2, h3, h4⟩ := sfFor_in (ok := ok) (here := here) ns f w.dropLast
      have hw : ∀ x ∈ w, x = here ∨ x ∈ w.dropLast := fun x hx => by
        obtain ⟨l, e⟩ := List.getLast?_eq_some_iff.mp hg
        subst e
        rw [List.dropLast_concat]
        rcases List.mem_append.mp hx with h | h
        · exact .inr h
        · exact .inl (List.mem_singleton.mp h)
      obtain ⟨g1, g2⟩ := sfLoop_closed k _ _ r h (fun x hx => by
        rcases h4 x hx with q | q
        · rcases inv x q with q2 | q2
          · rcases hw x q2 with rfl | q3
            · exact .inr fun o ho hk => h3 o ho hk
            · exact .inl (h2 x q3)
          · exact .inr fun o ho hk => h1 _ (q2 o ho hk)
        · exact .inl q.1)
      exact ⟨fun x hx => g1 x (h1 x hx), g2⟩
/-- what is found is had by steps -/
theorem sfLoop_sound {ok : Nm → Nm → Bool} {ns : List Nm} {P : Nm → Prop} (step : ∀ x o, P x → ok x o = true → P o) : ∀ (k : Nat) (f w r : List Nm), sfLoop ns ok k f w = some r → (∀ x ∈ f, P x) → (∀ x ∈ w, P x) → ∀ x ∈ r, P x
  | 0, _, _, _, h, _, _ => by cases h
  | k + 1, f, w, r, h, hf, hw => by
    unfold sfLoop at h
    cases hg : w.getLast? with
    | none => rw [hg] at h; cases h; exact hf
    | some here =>
      rw [hg] at h
      dsimp only at h
      have ph := hw here (List.mem_of_getLast? hg)
      have key : ∀ (os f w : List Nm), (∀ x ∈ f, P x) → (∀ x ∈ w, P x) → (∀ x ∈ (sfFor ok here os f w).1, P x) ∧ ∀ x ∈ (sfFor ok here os f w).2, P x := by
        intro os
        induction os with
        | nil => exact fun f w h1 h2 => ⟨h1, h2⟩
        | cons o os ih =>
          intro f w h1 h2
          unfold sfFor
          cases q : (!memS o f && ok here o) with
          | false => simp only [Bool.false_eq_true, if_false]; exact ih f w h1 h2
          | true =>
            simp only [if_true]
            simp only [Bool.and_eq_true] at q
            have po := step _ _ ph q.2
            refine ih _ _ (fun x hx => ?_) (fun x hx => ?_)
            · rcases List.mem_append.mp hx with h | h
              · exact h1 x h
              · rw [List.mem_singleton.mp h]; exact po
            · rcases List.mem_append.mp hx with h | h
              · exact h2 x h
              · rw [List.mem_singleton.mp h]; exact po
      obtain ⟨g1, g2⟩ := key ns f w.dropLast hf (fun x hx => hw x (List.dropLast_subset w hx))
      exact sfLoop_sound step k _ _ r h g1 g2
/-! ### a drawn world is good -/
theorem who_dist : ∀ m, m ≤ 3 → distN (whoN.take m) = true
  | 0, _ => by decide
  | 1, _ => by decide
  | 2, _ => by decide
  | 3, _ => by decide
theorem WOk.okn {w : Wr} (h : WOk w) : ∀ s ∈ w.ns, okS s = true := fun s hs => by
  obtain ⟨b, hb, rfl⟩ := List.mem_map.mp hs
  exact (h.facts.ok (pr b) (List.mem_map.mpr ⟨b, hb, rfl⟩)).1
theorem WOk.few {w : Wr} (h : WOk w) : w.bs.length ≤ 60 := by
  have := h.facts2.few
  rwa [List.length_map] at this
theorem WOk.goodS {w : Wr} (h : WOk w) : GoodS w :=
  { h.good with
    few := h.few
    okn := h.okn
    wdist := by obtain ⟨m, _, m3, hm⟩ := h.who; rw [hm]; exact who_dist m m3
    ends := fun s _ => by
      have hn : w.ns.length = w.bs.length := by simp [Wr.ns]
      have := h.few
      have hu := unseen_le w.ns [s]
      obtain ⟨r, e1, e2⟩ := sfLoop_ends (ok := okW w.bs) (ns := w.ns) 100 [s] [s] (by simp; omega)
      exact ⟨r, e1, by simp at e2; omega⟩ }
/-- what one sees is closed under clear steps -/
theorem seen_mem {w : Wr} (h : WOk w) {s : Nm} (hs : memS s w.ns = true) : s ∈ seenM w s ∧ ∀ x ∈ seenM w s, ∀ o ∈ w.ns, okW w.bs x o = true → o ∈ seenM w s := by
  obtain ⟨r, e1, _⟩ := h.goodS.ends s hs
  obtain ⟨g1, g2⟩ := sfLoop_closed 100 [s] [s] r e1 (fun x hx => .inl hx)
  unfold seenM
  rw [e1]
  dsimp only
  exact ⟨mem_sortN.mpr (g1 s (by simp)), fun x hx o ho hk => mem_sortN.mpr (g2 x (mem_sortN.mp hx) o ho hk)⟩
theorem seen_P {w : Wr} {s : Nm} {P : Nm → Prop} (step : ∀ x o, P x → okW w.bs x o = true → P o) (hs : P s) : ∀ x ∈ seenM w s, P x := by
  unfold seenM
  cases e : sfLoop w.ns (okW w.bs) 100 [s] [s] with
  | none => intro x hx; simp at hx
  | some r =>
    intro x hx
    have one : ∀ x ∈ [s], P x := fun x hx => by rw [List.mem_singleton.mp hx]; exact hs
    exact sfLoop_sound step 100 [s] [s] r e one one x (mem_sortN.mp hx)
end Ev.Mr
namespace Ev.Mr
local macro_rules | `(tactic| simp_arith [$ts,*]) => `(tactic| simp only [op2_add, op2_sub, op2_mul, op2_fdiv, op2_mod, op2_eq, op2_ne, op2_lt, op2_le, op2_gt, op2_ge, op2_is, op2_isnot, op2_in, op2_notin, op2_idx, bD_some, nD_some, ltD_int, ltD_str, leD_int, bi_len, bi_all, bi_dict, bi_dictT, bi_sorted, bi_tuple, bi_list, bi_max, bi_min, len_tup, len_lst, len_dk, seqI_tup, seqI_lst, seqP_tup, seqP_lst, seqs_tup, seqs_lst, isi_str_str, isi_tup_tup, is_non_non, is_str_non, is_lst_non, is_tup_non, idx_tup, idx_lst, idx_dkS, in_str, obind_some, omap_some, andK_bl, orK_bl, notK_bl, iteK_bl, chnK_bl, iffK_bl, evE_var, varK_some, evE_non, evE_bl, evE_int, evE_str, evE_glob, evE_tup, evE_lst, evE_lstH, evE_dct, evE_op, evE_chn, evE_and2, evE_or2, evE_not, evE_ife, evE_call, evE_bi, evE_isi, evE_slc, evE_rev, revK_lst, evE_skey, skeyK_lst, evE_told, evE_bor, borK_bl, borK_int, frz_nil, frz_none, frz_some, evE_idxO, idxOK_some, evEs_nil, evEs_cons, evI_seq, evI_enum, evI_zip, evI_range, evI_own, ownK_some, bndK_some, evS_set, evS_setO, own_lst, own_dk, evS_par, evPar_nil, evPar_cons, setPar_nil, setPar_cons, evFor_nil, evS_app, appK_some, evS_pop, evS_put, evS_putH, evS_exp, evS_ret, evS_raise, evS_iff, evS_for, evS_whl, evS_frz, frzK_some, evSS_nil, evSS_cons, out_nx, out_rt, out_exc, bindS_exc, R.bind_ok, R.bindS_ok, RS.bind_nx, RS.bind_rt, RS.bind_exc, R.bind_exc, bindS_exc, liftO_some, ite_and, ite_or, List.getElem?_cons_zero, List.getElem?_cons_succ, List.length_map, List.length_cons, List.length_nil, bindT, List.set_cons_zero, List.set_cons_succ, allB_map, allT, if_true, if_false, reduceCtorEq, Nat.reduceAdd, Nat.reduceLT, ↓reduceIte, decide_true, decide_false, Bool.and_true, Bool.true_and, Bool.false_and, Bool.and_false, Bool.or_false, Bool.false_or, Bool.or_true, Bool.true_or, Bool.not_true, Bool.not_false, Bool.false_eq_true, $ts,*])
/-! ### the way, by shape alone -/
def nextP (sk : Sk) (s t : Nm) : Bool := match outOfP sk s, outOfP sk t with
  | some a, some b => eqO a t || eqO b s
  | _, _ => false
theorem outOf_row {s : Nm} : ∀ {bs : List Bx}, outOf bs s = (rowOf bs s).map Bx.out
  | [] => rfl
  | c :: bs => by
    unfold rowOf outOf
    cases q : eqN c.nm s with
    | true =>
      rw [List.filter_cons_of_pos (by simpa using q)]
      rfl
    | false =>
      rw [List.filter_cons_of_neg (by simp [q])]
      exact outOf_row
theorem rowOf_nm {s : Nm} {b : Bx} {bs : List Bx} (h : rowOf bs s = some b) : b.nm = s := by
  have : b ∈ bs.filter fun b => eqN b.nm s := List.mem_of_getElem? h
  exact eqN_iff.mp (List.mem_filter.mp this).2
theorem nextW_P {bs : List Bx} : nextW bs = nextP (bs.map pr) := by
  funext s t
  unfold nextW nextP
  rw [← outOf_P, ← outOf_P, outOf_row, outOf_row]
  cases h1 : rowOf bs s with
  | none => rfl
  | some a =>
    cases h2 : rowOf bs t with
    | none => rfl
    | some b =>
      show nextM a b = _
      unfold nextM
      rw [rowOf_nm h1, rowOf_nm h2]; rfl
def firstP (m : Nm) : List Nm → Option Nat
  | [] => none
  | x :: l => if eqN x m then some 0 else (firstP m l).map (· + 1)
def lawwayP (sk : Sk) (s t : Nm) : Option (List Nm) :=
  match ((s :: chainP sk s).filter fun x => memS x (t :: chainP sk t)) with
  | [] => none
  | m :: _ => match firstP m (s :: chainP sk s), firstP m (t :: chainP sk t) with
    | some i, some j => some ((s :: chainP sk s).take (i + 1) ++ ((t :: chainP sk t).take j).reverse)
    | _, _ => none
def prsL (l : List Nm) : List (Nm × Nm) := l.zip (l.drop 1)
def innP (sk : Sk) (p : Nm × Nm) : Nm := match outOfP sk p.2 with
  | some o => if eqO o p.1 then p.2 else p.1
  | none => p.1
def hasOut (sk : Sk) (s : Nm) : Bool := match outOfP sk s with
  | some (some _) => true
  | _ => false
def wayP (sk : Sk) (s t : Nm) : List Nm := match lawwayP sk s t with
  | some l => l
  | none => []
def isH (l : List Nm) (s : Nm) : Bool := match l with
  | x :: _ => eqN x s
  | [] => false
def facts4 (sk : Sk) : Bool := (sk.map Prod.fst).all fun s => (sk.map Prod.fst).all fun t =>
  (match lawwayP sk s t, pathM (sk.map Prod.fst) (nextP sk) s t with | some a, some b => eqNs a b | _, _ => false) && isH (wayP sk s t) s && memS t (wayP sk s t) && Nat.ble (wayP sk s t).length 60
    && (prsL (wayP sk s t)).all (fun p => nextP sk p.1 p.2 && memS p.1 (sk.map Prod.fst) && memS p.2 (sk.map Prod.fst) && hasOut sk (innP sk p) && memS (innP sk p) (sk.map Prod.fst))
    && distN ((prsL (wayP sk s t)).map (innP sk)) && (wayP sk s t).all (fun x => memS x (sk.map Prod.fst))
    && Nat.ble (chainP sk s).length 60
theorem skels_facts4 : skels.all facts4 = true := by decide +kernel
structure Facts4 (sk : Sk) (s t : Nm) : Prop where
  lw : lawwayP sk s t = some (wayP sk s t)
  pm : pathM (sk.map Prod.fst) (nextP sk) s t = some (wayP sk s t)
  hd : isH (wayP sk s t) s = true
  tl : memS t (wayP sk s t) = true
  len : (wayP sk s t).length ≤ 60
  pr : ∀ p ∈ prsL (wayP sk s t), nextP sk p.1 p.2 = true ∧ memS p.1 (sk.map Prod.fst) = true ∧ memS p.2 (sk.map Prod.fst) = true ∧ hasOut sk (innP sk p) = true ∧ memS (innP sk p) (sk.map Prod.fst) = true
  inn : distN ((prsL (wayP sk s t)).map (innP sk)) = true
  mem : ∀ x ∈ wayP sk s t, memS x (sk.map Prod.fst) = true
  clen : (chainP sk s).length ≤ 60
theorem facts4_ok {sk : Sk} (h : facts4 sk = true) {s t : Nm} (hs : s ∈ sk.map Prod.fst) (ht : t ∈ sk.map Prod.fst) : Facts4 sk s t := by
  unfold facts4 at h
  have h := List.all_eq_true.mp (List.all_eq_true.mp h s hs) t ht
  simp only [Bool.and_eq_true, List.all_eq_true, Nat.ble_eq] at h
  obtain ⟨⟨⟨⟨⟨⟨⟨h1, h2⟩, h3⟩, h4⟩, h5⟩, h6⟩, h7⟩, h8⟩ := h
  cases q1 : lawwayP sk s t with
  | none => rw [q1] at h1; cases h1
  | some a =>
    cases q2 : pathM (sk.map Prod.fst) (nextP sk) s t with
    | none => rw [q1, q2] at h1; cases h1
    | some b =>
      rw [q1, q2] at h1
      have e := eqNs_ok h1
      have ew : wayP sk s t = a := by unfold wayP; rw [q1]
      exact ⟨by rw [q1, ew], by rw [q2, ew, e], h2, h3, h4, fun p hp => by have := h5 p hp; exact ⟨this.1.1.1.1, this.1.1.1.2, this.1.1.2, this.1.2, this.2⟩, h6, fun x hx => h7 x hx, h8⟩
theorem WOk.facts4 {w : Wr} (h : WOk w) {s t : Nm} (hs : memS s w.ns = true) (ht : memS t w.ns = true) : Facts4 (w.bs.map pr) s t :=
  facts4_ok (List.all_eq_true.mp skels_facts4 _ h.sk) (by rw [ns_pr]; exact memS_iff.mp hs) (by rw [ns_pr]; exact memS_iff.mp ht)
/-! ### what is clear -/
def clearW (bs : List Bx) (s t : Nm) : Bool := match rowOf bs s, rowOf bs t with
  | some a, some b => letsM a b
  | _, _ => false
def hind (bs : List Bx) (ps : List (Nm × Nm)) : List (Nm × Nm) := ps.filter fun p => !clearW bs p.1 p.2
section
variable {tab : Nat → Option FD} {con : Nat → Option D} {TD : Nat → Nat → Option D} {n : Nat} {st : HSt}
structure Tab4 (tab : Nat → Option FD) (con : Nat → Option D) : Prop extends TabS tab con where
  h60 : Is tab 60 3 3 b_need_both
  h61 : Is tab 61 4 3 b_way
  h62 : Is tab 62 8 3 b_path_between
  h64 : Is tab 64 6 3 b_dim
theorem s_need_both (T : Tab4 tab con) {w : Wr} (g : GoodS w) {s t : Nm} (hs : memS s (w.ws.map Prod.fst) = true) (ht : memS t w.ns = true) : (evC tab con TD 100) (n + 6) 60 [w.d, .str s, .str t] st = .ok .non st := by
  rw [evC_succ T.h60]
  show (evSS con ((evC tab con TD 100) (n + 5)) TD 100 [some (false, w.d), some (false, .str s), some (false, .str t)] b_need_both st).out = _
  unfold b_need_both
  have few := g.few
  have k := s_need_box (n := n + 3) (TD := TD) (fu := 100) (st := st) T.toTabW T.h12 (w := w) (by omega) (s := t)
  rw [ht, if_pos rfl] at k
  simp_arith [s_need_world T.toTabW g.toGoodW, s_need_watcher T.toTabW T.h13 g.wlen hs, k]
theorem s_path' (T : Tab4 tab con) {w : Wr} (g : WOk w) {s t : Nm} (hs : memS s w.ns = true) (ht : memS t w.ns = true) : (evC tab con TD 100) (n + 3) 62 [w.d, .str s, .str t] st = .ok (.lst ((wayP (w.bs.map pr) s t).map .str)) st := by
  have gs := g.goodS
  have few := gs.few
  have f := (g.facts4 hs ht).pm
  rw [ns_pr] at f
  exact s_path T.toTabS T.h62 (by omega) gs.okn hs (by rw [nextW_P]; exact f)
theorem s_way (T : Tab4 tab con) {w : Wr} (g : WOk w) {s p t : Nm} (hp : placeOf w.ws s = some p) (hm : memS p w.ns = true) (hs : memS s (w.ws.map Prod.fst) = true) (ht : memS t w.ns = true) :
    (evC tab con TD 100) (n + 7) 61 [w.d, .str s, .str t] st = .ok (if memS t (seenM w p) = true then .lst ((wayP (w.bs.map pr) p t).map .str) else .non) st := by
  have gs := g.goodS
  rw [evC_succ T.h61]
  show (evSS con ((evC tab con TD 100) (n + 6)) TD 100 [some (false, w.d), some (false, .str s), some (false, .str t), none] b_way st).out = _
  unfold b_way
  have k1 := s_need_both (n := n) (TD := TD) (st := st) T gs hs ht
  have k2 := s_place_of (n := n + 5) (con := con) (TD := TD) (st := st) T.h15 gs.wdist hp
  have k3 := s_path' (n := n + 3) (TD := TD) (st := st) T g hm ht
  have k4 := s_seen_by_one (n := n + 2) (TD := TD) (st := st) T.toTabS gs hp hm
  have k5 := in_strs (st := st) (s := t) (l := seenM w p)
  rw [show (seenM w p).any (eqN · t) = memS t (seenM w p) from rfl] at k5
  cases q : memS t (seenM w p) with
  | true =>
    rw [q] at k5
    simp_arith [k1, k2, k3, k4, k5]
  | false =>
    rw [q] at k5
    simp_arith [k1, k2, k3, k4, k5]
theorem s_dim (T : Tab4 tab con) {w : Wr} (g : WOk w) {s p t : Nm} (hp : placeOf w.ws s = some p) (hm : memS p w.ns = true) (hs : memS s (w.ws.map Prod.fst) = true) (ht : memS t w.ns = true) :
    (evC tab con TD 100) (n + 7) 64 [w.d, .str s, .str t] st = .ok (.int (hind w.bs (prsL (wayP (w.bs.map pr) p t))).length) st := by
  have gs := g.goodS
  have F := g.facts4 hm ht
  have few := gs.few
  have hl := F.len
  rw [evC_succ T.h64]
  show (evSS con ((evC tab con TD 100) (n + 6)) TD 100 [some (false, w.d), some (false, .str s), some (false, .str t), none, none, none] b_dim st).out = _
  unfold b_dim
  have k1 := s_need_both (n := n) (TD := TD) (st := st) T gs hs ht
  have k2 := s_place_of (n := n + 5) (con := con) (TD := TD) (st := st) T.h15 gs.wdist hp
  have k3 := s_path' (n := n + 3) (TD := TD) (st := st) T g hm ht
  have k4 : evE con ((evC tab con TD 100) (n + 6)) TD [some (false, w.d), some (false, .str s), some (false, .str t), some (false, .lst ((wayP (w.bs.map pr) p t).map .str)), none, none] (.lcf [4, 5] (.tp [(.nm 4), (.nm 5)]) (.zip (.var 3) (.slc (.var 3) (.int 1) .non)) (.int 1) (.not_ (.call 18 (.cons (.var 0) (.cons (.var 4) (.cons (.var 5) .nil)))))) st
      = .ok (.lst ((hind w.bs (prsL (wayP (w.bs.map pr) p t))).map fun _ => .int 1)) st := by
    generalize hr : wayP (w.bs.map pr) p t = row at *
    refine evE_lcf (ds := (prsL row).map wD) ?_ (by simp [prsL]; omega) (evLC_filter fun q hq => ⟨[some (false, w.d), some (false, .str s), some (false, .str t), some (false, .lst (row.map .str)), some (false, .str q.1), some (false, .str q.2)], by rfl, ?_, fun _ => by simp_arith []⟩)
    · have e : slcD st (.lst (row.map .str)) (.int 1) .non = some (.lst ((row.drop 1).map .str)) := by
        cases row with
        | nil => rfl
        | cons x l => rw [List.map_cons, slc_lst1]; rfl
      simp_arith [chkP, guardP, isNonE, Bool.not_false, e, isTup, beq_self_eq_true]
      rw [zipD_map]; rfl
    · obtain ⟨h1, h2, h3, _⟩ := F.pr q (by rw [hr]; exact hq)
      rw [ns_pr] at h2 h3
      obtain ⟨a, ra, ea, ma⟩ := rowOf_mem h2
      obtain ⟨b, rb, eb, mb⟩ := rowOf_mem h3
      have k := s_lets (n := n + 4) (TD := TD) (fu := 100) (st := st) T.toTabW T.h14 T.h18 (w := w) (by omega) ra rb ea
      unfold clearW
      rw [ra, rb]
      simp_arith [k]
  simp_arith [k1, k2, k3, k4]
end
end Ev.Mr
namespace Ev.Mr
local macro_rules | `(tactic| simp_arith [$ts,*]) => `(tactic| simp only [op2_add, op2_sub, op2_mul, op2_fdiv, op2_mod, op2_eq, op2_ne, op2_lt, op2_le, op2_gt, op2_ge, op2_is, op2_isnot, op2_in, op2_notin, op2_idx, bD_some, nD_some, ltD_int, ltD_str, leD_int, bi_len, bi_all, bi_dict, bi_dictT, bi_sorted, bi_tuple, bi_list, bi_max, bi_min, len_tup, len_lst, len_dk, seqI_tup, seqI_lst, seqP_tup, seqP_lst, seqs_tup, seqs_lst, isi_str_str, isi_tup_tup, is_non_non, is_str_non, is_lst_non, is_tup_non, idx_tup, idx_lst, idx_dkS, in_str, obind_some, omap_some, andK_bl, orK_bl, notK_bl, iteK_bl, chnK_bl, iffK_bl, evE_var, varK_some, evE_non, evE_bl, evE_int, evE_str, evE_glob, evE_tup, evE_lst, evE_lstH, evE_dct, evE_op, evE_chn, evE_and2, evE_or2, evE_not, evE_ife, evE_call, evE_bi, evE_isi, evE_slc, evE_rev, revK_lst, evE_skey, skeyK_lst, evE_told, evE_bor, borK_bl, borK_int, frz_nil, frz_none, frz_some, evE_idxO, idxOK_some, evEs_nil, evEs_cons, evI_seq, evI_enum, evI_zip, evI_range, evI_own, ownK_some, bndK_some, evS_set, evS_setO, own_lst, own_dk, evS_par, evPar_nil, evPar_cons, setPar_nil, setPar_cons, evFor_nil, evS_app, appK_some, evS_pop, evS_put, evS_putH, evS_exp, evS_ret, evS_raise, evS_iff, evS_for, evS_whl, evS_frz, frzK_some, evSS_nil, evSS_cons, out_nx, out_rt, out_exc, bindS_exc, R.bind_ok, R.bindS_ok, RS.bind_nx, RS.bind_rt, RS.bind_exc, R.bind_exc, bindS_exc, liftO_some, ite_and, ite_or, List.getElem?_cons_zero, List.getElem?_cons_succ, List.length_map, List.length_cons, List.length_nil, bindT, List.set_cons_zero, List.set_cons_succ, allB_map, allT, if_true, if_false, reduceCtorEq, Nat.reduceAdd, Nat.reduceLT, ↓reduceIte, decide_true, decide_false, Bool.and_true, Bool.true_and, Bool.false_and, Bool.and_false, Bool.or_false, Bool.false_or, Bool.or_true, Bool.true_or, Bool.not_true, Bool.not_false, Bool.false_eq_true, $ts,*])
section
variable {tab : Nat → Option FD} {con : Nat → Option D} {TD : Nat → Nat → Option D} {n : Nat} {st : HSt}
theorem evE_x2 {C : CT} {env : EvEnv} {o : X2} {a b : IE} : evE con C TD env (.x2 o a b) st = (evE con C TD env a st).bind fun x st => guardP (x2ok o x) ((evE con C TD env b st).bind fun y st => liftO (x2D o x y) st) := by simp only [evE]
theorem flat_strs : ∀ l : List Nm, (l.map D.str).all flatD = true
  | [] => rfl
  | x :: l => flat_strs l
theorem firstAt_strs {m : Nm} : ∀ {l : List Nm}, firstAt (.str m) (l.map .str) = firstP m l
  | [] => rfl
  | x :: l => by
    show (if eqN x m then some 0 else (firstAt (.str m) (l.map .str)).map (· + 1)) = _
    rw [firstAt_strs (l := l)]; rfl
theorem x2_index {l : List Nm} {m : Nm} : x2D .index (.lst (l.map .str)) (.str m) = (firstP m l).map fun (n : Nat) => D.int n := by
  show (if flatD (.str m) && (l.map D.str).all flatD then (firstAt (.str m) (l.map .str)).map fun (n : Nat) => D.int n else none) = _
  rw [flat_strs, firstAt_strs]; rfl
theorem s_who (h : Is tab 66 2 1 b_law_who) {w : Wr} (hl : w.ws.length ≤ 1000) : (evC tab con TD 100) (n + 1) 66 [w.d] st = .ok (.lst ((w.ws.map Prod.fst).map .str)) st := by
  rw [evC_succ h]
  show (evSS con ((evC tab con TD 100) n) TD 100 [some (false, w.d), none] b_law_who st).out = _
  unfold b_law_who
  have k1 : evE con ((evC tab con TD 100) n) TD [some (false, w.d), none] (.lc [1] (.nm 1) (.seq (.op .idx (.var 0) (.int 1))) (.op .idx (.var 1) (.int 0))) st = .ok (.lst ((w.ws.map Prod.fst).map .str)) st := by
    rw [List.map_map]
    refine evE_lc (ds := w.ws.map wD) (by simp_arith [idxW1]) (by simpa using hl) (evLC_map fun b hb => ⟨[some (false, w.d), some (false, wD b)], by rfl, by rfl, ?_⟩)
    simp_arith [idxP0]; rfl
  simp_arith [k1]
theorem add_str_strs {s : Nm} {l : List Nm} (h : l.length ≤ 1000) : addD (.lst [.str s]) (.lst (l.map .str)) = some (.lst ((s :: l).map .str)) := by
  show (if ([D.str s] : List D).length + (l.map D.str).length ≤ line then some (D.lst ([D.str s] ++ l.map D.str)) else none) = _
  rw [if_pos (by simp; unfold line; omega)]; rfl
theorem add_strs2 {l r : List Nm} (h : l.length + r.length ≤ 1000) : addD (.lst (l.map .str)) (.lst (r.map .str)) = some (.lst ((l ++ r).map .str)) := by
  show (if (l.map D.str).length + (r.map D.str).length ≤ line then some (D.lst (l.map D.str ++ r.map D.str)) else none) = _
  rw [if_pos (by simp; unfold line; omega), List.map_append]
theorem slc_strsN {l : List Nm} {i : Nat} : slcD st (.lst (l.map .str)) .non (.int i) = some (.lst ((l.take i).map .str)) := by
  rw [slc_lstN (by omega), List.map_take]; rfl
theorem slc_strsI {l : List Nm} {v : Int} {i : Nat} (h : v = i) : slcD st (.lst (l.map .str)) .non (.int v) = some (.lst ((l.take i).map .str)) := by
  subst h; exact slc_strsN
theorem s_law_way (h56 : Is tab 56 2 1 b_law_outer) (h57 : Is tab 57 4 2 b_law_chain_up) (h : Is tab 76 7 3 b_law_way) {w : Wr} (g : WOk w) {s t : Nm} (hs : memS s w.ns = true) (ht : memS t w.ns = true) :
    (evC tab con TD 100) (n + 3) 76 [w.d, .str s, .str t] st = .ok (.lst ((wayP (w.bs.map pr) s t).map .str)) st := by
  have gd := g.good
  have F := (g.facts4 hs ht).lw
  have c1 := (g.facts4 hs ht).clen
  have c2 := (g.facts4 ht hs).clen
  have F2 := g.facts2
  have up : ∀ x, memS x w.ns = true → (evC tab con TD 100) (n + 2) 57 [w.d, .str x] st = .ok (.lst ((chainP (w.bs.map pr) x).map .str)) st := fun x hx =>
    s_chain_up (n := n) h56 h57 (by decide) gd.len gd.dist (F2.up x (by rw [ns_pr]; exact memS_iff.mp hx))
  rw [evC_succ h]
  show (evSS con ((evC tab con TD 100) (n + 2)) TD 100 [some (false, w.d), some (false, .str s), some (false, .str t), none, none, none, none] b_law_way st).out = _
  unfold b_law_way
  unfold lawwayP at F
  have a1 := add_str_strs (s := s) (l := chainP (w.bs.map pr) s) (by omega)
  have a2 := add_str_strs (s := t) (l := chainP (w.bs.map pr) t) (by omega)
  have u1 := up s hs
  have u2 := up t ht
  generalize hu : chainP (w.bs.map pr) s = cs at *
  generalize hv : chainP (w.bs.map pr) t = ct at *
  generalize hr : wayP (w.bs.map pr) s t = row at *
  have k1 : ∀ x3 x6, evE con ((evC tab con TD 100) (n + 2)) TD [some (false, w.d), some (false, .str s), some (false, .str t), x3, some (false, .lst ((s :: cs).map .str)), some (false, .lst ((t :: ct).map .str)), x6] (.lcf [6] (.nm 6) (.seq (.var 4)) (.var 6) (.op .in_ (.var 6) (.var 5))) st
      = .ok (.lst (((s :: cs).filter fun x => memS x (t :: ct)).map .str)) st := fun x3 x6 => by
    refine evE_lcf (ds := (s :: cs).map .str) (by simp_arith []) (by simp; omega) (evLC_filter fun x hx => ⟨[some (false, w.d), some (false, .str s), some (false, .str t), x3, some (false, .lst ((s :: cs).map .str)), some (false, .lst ((t :: ct).map .str)), some (false, .str x)], by rfl, ?_, fun _ => by simp_arith []⟩)
    simp_arith [in_strs]
    rfl
  cases q1 : ((s :: cs).filter fun x => memS x (t :: ct)) with
  | nil => rw [q1] at F; cases F
  | cons m rest =>
    rw [q1] at F k1
    dsimp only at F
    cases q2 : firstP m (s :: cs) with
    | none => rw [q2] at F; cases F
    | some i =>
      cases q3 : firstP m (t :: ct) with
      | none => rw [q2, q3] at F; cases F
      | some j =>
        rw [q2, q3] at F
        have F : (s :: cs).take (i + 1) ++ ((t :: ct).take j).reverse = row := Option.some.inj F
        have i0 := idx_l0 (st := st) (x := m) (f := rest)
        simp only [idx_lst, List.length_map, List.length_cons] at i0
        have x1 := x2_index (l := s :: cs) (m := m)
        have x2 := x2_index (l := t :: ct) (m := m)
        rw [q2] at x1
        rw [q3] at x2
        have y1 := slc_strsI (st := st) (l := s :: cs) (v := (i : Int) + 1) (i := i + 1) rfl
        have y2 := slc_strsN (st := st) (l := t :: ct) (i := j)
        have y3 := add_strs2 (l := (s :: cs).take (i + 1)) (r := ((t :: ct).take j).reverse) (by
          have h1 := List.length_take_le (i + 1) (s :: cs)
          have h2 := List.length_take_le j (t :: ct)
          have h1' : ((s :: cs).take (i + 1)).length ≤ (s :: cs).length := List.length_take_le' (i + 1) (s :: cs)
          have h2' : ((t :: ct).take j).length ≤ (t :: ct).length := List.length_take_le' j (t :: ct)
          simp only [List.length_cons, List.length_reverse] at *
          omega)
        rw [F] at y3
        rw [List.map_reverse] at y3
        have k1 := k1 none none
        simp_arith [u1, u2, a1, a2, k1, i0, evE_x2, x2ok, guardP, x1, x2, y1, y2, y3, add_int, chkP, isNonE]
end
end Ev.Mr
namespace Ev.Mr
local macro_rules | `(tactic| simp_arith [$ts,*]) => `(tactic| simp only [op2_add, op2_sub, op2_mul, op2_fdiv, op2_mod, op2_eq, op2_ne, op2_lt, op2_le, op2_gt, op2_ge, op2_is, op2_isnot, op2_in, op2_notin, op2_idx, bD_some, nD_some, ltD_int, ltD_str, leD_int, bi_len, bi_all, bi_dict, bi_dictT, bi_sorted, bi_tuple, bi_list, bi_max, bi_min, len_tup, len_lst, len_dk, seqI_tup, seqI_lst, seqP_tup, seqP_lst, seqs_tup, seqs_lst, isi_str_str, isi_tup_tup, is_non_non, is_str_non, is_lst_non, is_tup_non, idx_tup, idx_lst, idx_dkS, in_str, obind_some, omap_some, andK_bl, orK_bl, notK_bl, iteK_bl, chnK_bl, iffK_bl, evE_var, varK_some, evE_non, evE_bl, evE_int, evE_str, evE_glob, evE_tup, evE_lst, evE_lstH, evE_dct, evE_op, evE_chn, evE_and2, evE_or2, evE_not, evE_ife, evE_call, evE_bi, evE_isi, evE_slc, evE_rev, revK_lst, evE_skey, skeyK_lst, evE_told, evE_bor, borK_bl, borK_int, frz_nil, frz_none, frz_some, evE_idxO, idxOK_some, evEs_nil, evEs_cons, evI_seq, evI_enum, evI_zip, evI_range, evI_own, ownK_some, bndK_some, evS_set, evS_setO, own_lst, own_dk, evS_par, evPar_nil, evPar_cons, setPar_nil, setPar_cons, evFor_nil, evS_app, appK_some, evS_pop, evS_put, evS_putH, evS_exp, evS_ret, evS_raise, evS_iff, evS_for, evS_whl, evS_frz, frzK_some, evSS_nil, evSS_cons, out_nx, out_rt, out_exc, bindS_exc, R.bind_ok, R.bindS_ok, RS.bind_nx, RS.bind_rt, RS.bind_exc, R.bind_exc, bindS_exc, liftO_some, ite_and, ite_or, List.getElem?_cons_zero, List.getElem?_cons_succ, List.length_map, List.length_cons, List.length_nil, bindT, List.set_cons_zero, List.set_cons_succ, allB_map, allT, if_true, if_false, reduceCtorEq, Nat.reduceAdd, Nat.reduceLT, ↓reduceIte, decide_true, decide_false, Bool.and_true, Bool.true_and, Bool.false_and, Bool.and_false, Bool.or_false, Bool.false_or, Bool.or_true, Bool.true_or, Bool.not_true, Bool.not_false, Bool.false_eq_true, $ts,*])
section
variable {tab : Nat → Option FD} {con : Nat → Option D} {TD : Nat → Nat → Option D} {n : Nat} {st : HSt}
/-! ### a lid opened -/
def opD (i : Nm) : D := .tup [.str openN, .str i]
def openBx (i : Nm) (b : Bx) : Bx := if eqN b.nm i then ⟨b.nm, b.out, openN, b.win⟩ else b
def openW (i : Nm) (w : Wr) : Wr := ⟨w.bs.map (openBx i), w.ws⟩
structure TabO (tab : Nat → Option FD) (con : Nat → Option D) : Prop extends TabS tab con where
  h20 : Is tab 20 3 2 b_is_open_deed
  h21 : Is tab 21 6 2 b_fits
  h22 : Is tab 22 7 2 b_lids_in_way
  h23 : Is tab 23 3 2 b_is_free
  h71 : Is tab 71 2 2 b_need_deed
  h72 : Is tab 72 6 2 b_turned
  h73 : Is tab 73 5 2 b_led_on
  h74 : Is tab 74 2 2 b_done
theorem eq_opD {i : Nm} (h : okS i = true) : eqD (opD i) (.tup []) = some false := by
  have e : eqD (opD i) (.tup []) = if okD (opD i) 60 && okD (.tup []) 60 then some (beq (opD i) (.tup [])) else none := rfl
  have o : okD (opD i) 60 = true := by
    show (okS openN && (okS i && true)) = true
    rw [h]; rfl
  rw [e, o]; rfl
theorem idxO0 {i : Nm} : idxD st (opD i) (.int 0) = some (.str openN) := rfl
theorem idxO1 {i : Nm} : idxD st (opD i) (.int 1) = some (.str i) := rfl
theorem len_opD {i : Nm} : lenD st (opD i) = some 2 := rfl
theorem isi_opD {i : Nm} : isiD .tuple (opD i) = some true := rfl
theorem hit_open : x2D (.kget 3 hits3 miss3) (.str openN) (.int 0) = some (.int 2) := rfl
theorem eqn_go : eqN openN [103, 111] = false := rfl
theorem eqn_glaze : eqN openN [103, 108, 97, 122, 101] = false := rfl
theorem eqn_carry : eqN openN [99, 97, 114, 114, 121] = false := rfl
theorem eqn_open : eqN openN [111, 112, 101, 110] = true := rfl
theorem s_deed_open (T : TabO tab con) {w : Wr} (hl : w.bs.length ≤ 1000) {i o : Nm} {b : Bx} (hi : okS i = true) (hb : rowOf w.bs i = some b) (ho : b.out = some o) (hm : memS i w.ns = true) : (evC tab con TD 100) (n + 2) 20 [w.d, opD i] st = .ok (.bl true) st := by
  rw [evC_succ T.h20]
  show (evSS con ((evC tab con TD 100) (n + 1)) TD 100 [some (false, w.d), some (false, opD i), none] b_is_open_deed st).out = _
  unfold b_is_open_deed
  have k1 := s_row_of (n := n) (TD := TD) (fu := 100) (st := st) T.toTabW T.h14 hl hb
  have k2 := s_is_one_of (n := n) (TD := TD) (fu := 100) (st := st) T.toTabW (s := i) (in_strs (st := st) (s := i) (l := w.ns))
  rw [show w.ns.any (eqN · i) = true from hm] at k2
  simp_arith [isi_opD, eq_opD hi, idxO0, idxO1, len_opD, evE_x2, x2ok, guardP, hit_open, eq_ints, eq_strs, eqn_go, eqn_glaze, eqn_carry, s_box_names T.toTabW hl, k1, k2, idxB1, ho, oD, Int.cast_ofNat_Int, beq_self_eq_true]
theorem s_need_deed (T : TabO tab con) {w : Wr} (hl : w.bs.length ≤ 1000) {i o : Nm} {b : Bx} (hi : okS i = true) (hb : rowOf w.bs i = some b) (ho : b.out = some o) (hm : memS i w.ns = true) : (evC tab con TD 100) (n + 3) 71 [w.d, opD i] st = .ok .non st := by
  rw [evC_succ T.h71]
  show (evSS con ((evC tab con TD 100) (n + 2)) TD 100 [some (false, w.d), some (false, opD i)] b_need_deed st).out = _
  unfold b_need_deed
  simp_arith [s_deed_open T hl hi hb ho hm]
theorem s_fits_open (T : TabO tab con) {w : Wr} (hl : w.bs.length ≤ 1000) {i : Nm} {b : Bx} (hb : rowOf w.bs i = some b) : (evC tab con TD 100) (n + 2) 21 [w.d, opD i] st = .ok (.bl (!opn b)) st := by
  rw [evC_succ T.h21]
  show (evSS con ((evC tab con TD 100) (n + 1)) TD 100 [some (false, w.d), some (false, opD i), none, none, none, none] b_fits st).out = _
  unfold b_fits
  have k1 := s_row_of (n := n) (TD := TD) (fu := 100) (st := st) T.toTabW T.h14 hl hb
  simp_arith [idxO0, idxO1, eq_strs, eqn_go, eqn_glaze, eqn_carry, eqn_open, k1, Bx.d]
  rfl
theorem s_lids_open (T : TabO tab con) {w : Wr} {i : Nm} : (evC tab con TD 100) (n + 1) 22 [w.d, opD i] st = .ok (.lst []) st := by
  rw [evC_succ T.h22]
  show (evSS con ((evC tab con TD 100) n) TD 100 [some (false, w.d), some (false, opD i), none, none, none, none, none] b_lids_in_way st).out = _
  unfold b_lids_in_way
  simp_arith [idxO0, eq_strs, eqn_go, eqn_carry]
theorem s_free_open (T : TabO tab con) {w : Wr} {i : Nm} : (evC tab con TD 100) (n + 2) 23 [w.d, opD i] st = .ok (.bl true) st := by
  rw [evC_succ T.h23]
  show (evSS con ((evC tab con TD 100) (n + 1)) TD 100 [some (false, w.d), some (false, opD i), none] b_is_free st).out = _
  unfold b_is_free
  have k1 : evE con ((evC tab con TD 100) (n + 1)) TD [some (false, w.d), some (false, opD i), none] (.lc [2] (.nm 2) (.seq (.call 22 (.cons (.var 0) (.cons (.var 1) .nil)))) (.op .eq (.op .idx (.call 14 (.cons (.var 0) (.cons (.var 2) .nil))) (.int 2)) (.str [111, 112, 101, 110]))) st = .ok (.lst []) st := by
    refine evE_lc (ds := []) (by simp_arith [s_lids_open T]) (by simp) ?_
    rfl
  simp_arith [k1]
  rfl
theorem s_turned_open (T : TabO tab con) {i : Nm} {b : Bx} : (evC tab con TD 100) (n + 1) 72 [b.d, opD i] st = .ok (openBx i b).d st := by
  rw [evC_succ T.h72]
  show (evSS con ((evC tab con TD 100) n) TD 100 [some (false, b.d), some (false, opD i), none, none, none, none] b_turned st).out = _
  unfold b_turned
  have p1 : evS con ((evC tab con TD 100) n) TD 100 [some (false, b.d), some (false, opD i), none, none, none, none] (.set (.tp [(.nm 2), (.nm 3), (.nm 4), (.nm 5)]) (.var 0)) st = .nx [some (false, b.d), some (false, opD i), some (false, .str b.nm), some (false, oD b.out), some (false, .str b.lid), some (false, .str b.win)] st := by
    simp_arith [Bx.d]
    rfl
  rw [evSS_cons, p1, RS.bind_nx]
  unfold openBx
  cases q : eqN b.nm i with
  | true => 
    simp_arith [idxO0, idxO1, eq_strs, eqn_go, eqn_glaze, eqn_carry, eqn_open, q]
    rfl
  | false => simp_arith [idxO0, idxO1, eq_strs, eqn_go, eqn_glaze, eqn_carry, eqn_open, q]
theorem s_led_open (T : TabO tab con) {w : Wr} (hl : w.bs.length ≤ 1000) {i : Nm} {b : Bx} (hb : rowOf w.bs i = some b) (hn : opn b = false) : (evC tab con TD 100) (n + 3) 73 [w.d, opD i] st = .ok (openW i w).d st := by
  rw [evC_succ T.h73]
  show (evSS con ((evC tab con TD 100) (n + 2)) TD 100 [some (false, w.d), some (false, opD i), none, none, none] b_led_on st).out = _
  unfold b_led_on
  have k1 := s_fits_open (n := n) (TD := TD) (st := st) T hl hb
  rw [hn] at k1
  have k2 : evE con ((evC tab con TD 100) (n + 2)) TD [some (false, w.d), some (false, opD i), some (false, .tup (w.ws.map wD)), none, none] (.lc [3] (.nm 3) (.seq (.op .idx (.var 0) (.int 0))) (.call 72 (.cons (.var 3) (.cons (.var 1) .nil)))) st = .ok (.lst ((w.bs.map (openBx i)).map Bx.d)) st := by
    rw [List.map_map]
    refine evE_lc (ds := w.bs.map Bx.d) (by simp_arith [idxW0]) (by simpa using hl) (evLC_map fun b hb => ⟨[some (false, w.d), some (false, opD i), some (false, .tup (w.ws.map wD)), some (false, b.d), none], by rfl, by rfl, ?_⟩)
    simp_arith [s_turned_open T]
    rfl
  simp_arith [k1, s_free_open T, idxO0, eq_strs, eqn_go, idxW1, k2]
  rfl
theorem s_done_open (T : TabO tab con) {w : Wr} (g : GoodS w) {i o : Nm} {b : Bx} (hb : rowOf w.bs i = some b) (ho : b.out = some o) (hm : memS i w.ns = true) (hn : opn b = false) : (evC tab con TD 100) (n + 6) 74 [w.d, opD i] st = .ok (openW i w).d st := by
  rw [evC_succ T.h74]
  show (evSS con ((evC tab con TD 100) (n + 5)) TD 100 [some (false, w.d), some (false, opD i)] b_done st).out = _
  unfold b_done
  have few := g.few
  have hi := g.okn i (memS_iff.mp hm)
  simp_arith [s_need_world T.toTabW g.toGoodW, s_need_deed (n := n + 2) T (by omega) hi hb ho hm, s_led_open (n := n + 2) T (by omega) hb hn]
end
end Ev.Mr
namespace Ev.Mr
local macro_rules | `(tactic| simp_arith [$ts,*]) => `(tactic| simp only [op2_add, op2_sub, op2_mul, op2_fdiv, op2_mod, op2_eq, op2_ne, op2_lt, op2_le, op2_gt, op2_ge, op2_is, op2_isnot, op2_in, op2_notin, op2_idx, bD_some, nD_some, ltD_int, ltD_str, leD_int, bi_len, bi_all, bi_dict, bi_dictT, bi_sorted, bi_tuple, bi_list, bi_max, bi_min, len_tup, len_lst, len_dk, seqI_tup, seqI_lst, seqP_tup, seqP_lst, seqs_tup, seqs_lst, isi_str_str, isi_tup_tup, is_non_non, is_str_non, is_lst_non, is_tup_non, idx_tup, idx_lst, idx_dkS, in_str, obind_some, omap_some, andK_bl, orK_bl, notK_bl, iteK_bl, chnK_bl, iffK_bl, evE_var, varK_some, evE_non, evE_bl, evE_int, evE_str, evE_glob, evE_tup, evE_lst, evE_lstH, evE_dct, evE_op, evE_chn, evE_and2, evE_or2, evE_not, evE_ife, evE_call, evE_bi, evE_isi, evE_slc, evE_rev, revK_lst, evE_skey, skeyK_lst, evE_told, evE_bor, borK_bl, borK_int, frz_nil, frz_none, frz_some, evE_idxO, idxOK_some, evEs_nil, evEs_cons, evI_seq, evI_enum, evI_zip, evI_range, evI_own, ownK_some, bndK_some, evS_set, evS_setO, own_lst, own_dk, evS_par, evPar_nil, evPar_cons, setPar_nil, setPar_cons, evFor_nil, evS_app, appK_some, evS_pop, evS_put, evS_putH, evS_exp, evS_ret, evS_raise, evS_iff, evS_for, evS_whl, evS_frz, frzK_some, evSS_nil, evSS_cons, out_nx, out_rt, out_exc, bindS_exc, R.bind_ok, R.bindS_ok, RS.bind_nx, RS.bind_rt, RS.bind_exc, R.bind_exc, bindS_exc, liftO_some, ite_and, ite_or, List.getElem?_cons_zero, List.getElem?_cons_succ, List.length_map, List.length_cons, List.length_nil, bindT, List.set_cons_zero, List.set_cons_succ, allB_map, allT, if_true, if_false, reduceCtorEq, Nat.reduceAdd, Nat.reduceLT, ↓reduceIte, decide_true, decide_false, Bool.and_true, Bool.true_and, Bool.false_and, Bool.and_false, Bool.or_false, Bool.false_or, Bool.or_true, Bool.true_or, Bool.not_true, Bool.not_false, Bool.false_eq_true, $ts,*])
/-! ### opened worlds -/
theorem openBx_nm {i : Nm} {b : Bx} : (openBx i b).nm = b.nm := by unfold openBx; split <;> rfl
theorem openBx_out {i : Nm} {b : Bx} : (openBx i b).out = b.out := by unfold openBx; split <;> rfl
theorem openBx_pr {i : Nm} {b : Bx} : pr (openBx i b) = pr b := by unfold pr; rw [openBx_nm, openBx_out]
theorem openW_pr {i : Nm} {w : Wr} : (openW i w).bs.map pr = w.bs.map pr := by
  show (w.bs.map (openBx i)).map pr = _
  rw [List.map_map]
  exact List.map_congr_left fun b _ => openBx_pr
theorem openW_ns {i : Nm} {w : Wr} : (openW i w).ns = w.ns := by rw [← ns_pr, ← ns_pr, openW_pr]
theorem openW_ok {i : Nm} {w : Wr} (g : WOk w) : WOk (openW i w) :=
  { sk := by rw [openW_pr]; exact g.sk
    lid := fun b hb => by
      obtain ⟨c, hc, rfl⟩ := List.mem_map.mp hb
      unfold openBx
      split
      · simp [lids, openN]
      · exact g.lid c hc
    win := fun b hb => by
      obtain ⟨c, hc, rfl⟩ := List.mem_map.mp hb
      unfold openBx
      split
      · exact g.win c hc
      · exact g.win c hc
    who := g.who
    pl := fun p hp => by
      have := g.pl p hp
      have e : (openW i w).bs.map Bx.nm = w.bs.map Bx.nm := openW_ns
      rw [e]; exact this }
theorem rowOf_open {i s : Nm} {bs : List Bx} : rowOf (bs.map (openBx i)) s = (rowOf bs s).map (openBx i) := by
  unfold rowOf
  rw [List.filter_map, List.getElem?_map]
  have : ((fun b : Bx => eqN b.nm s) ∘ openBx i) = fun b => eqN b.nm s := by
    funext b
    show eqN (openBx i b).nm s = _
    rw [openBx_nm]
  rw [this]
theorem opn_open {i : Nm} {b : Bx} : opn (openBx i b) = (opn b || eqN b.nm i) := by
  unfold openBx
  cases q : eqN b.nm i with
  | true => simp [opn, openN]; rfl
  | false => simp
theorem inB_open {i : Nm} {b : Bx} : inB (openBx i b) = (inB b || eqN b.nm i) := by
  unfold inB
  rw [opn_open]
  unfold openBx
  cases q : eqN b.nm i <;> simp
theorem outB_open {i : Nm} {b : Bx} : outB (openBx i b) = (outB b || eqN b.nm i) := by
  unfold outB
  rw [opn_open]
  unfold openBx
  cases q : eqN b.nm i <;> simp
theorem clear_open {w : Wr} {i x y : Nm} (hx : memS x w.ns = true) (hy : memS y w.ns = true) : clearW (openW i w).bs x y = (clearW w.bs x y || eqN (innP (w.bs.map pr) (x, y)) i) := by
  obtain ⟨a, ra, ea, ma⟩ := rowOf_mem hx
  obtain ⟨b, rb, eb, mb⟩ := rowOf_mem hy
  have ob := rowOf_out rb
  rw [outOf_P] at ob
  unfold clearW innP openW
  simp only [rowOf_open, ra, rb, Option.map_some, ob]
  unfold letsM
  rw [openBx_out, openBx_nm, ea]
  cases q : eqO b.out x with
  | true =>
    simp only [if_true]
    rw [inB_open, eb]
  | false =>
    simp only [Bool.false_eq_true, if_false]
    rw [outB_open, ea]
theorem clear_not {w : Wr} {x y : Nm} (hx : memS x w.ns = true) (hy : memS y w.ns = true) (h : clearW w.bs x y = false) : ∃ b, rowOf w.bs (innP (w.bs.map pr) (x, y)) = some b ∧ opn b = false := by
  obtain ⟨a, ra, ea, ma⟩ := rowOf_mem hx
  obtain ⟨b, rb, eb, mb⟩ := rowOf_mem hy
  have ob := rowOf_out rb
  rw [outOf_P] at ob
  unfold clearW letsM at h
  rw [ra, rb] at h
  dsimp only at h
  unfold innP
  simp only [ob]
  rw [ea] at h
  cases q : eqO b.out x with
  | true =>
    rw [q] at h
    simp only [if_true] at h ⊢
    refine ⟨b, rb, ?_⟩
    unfold inB at h
    cases q2 : opn b with
    | false => rfl
    | true => rw [q2] at h; cases h
  | false =>
    rw [q] at h
    simp only [Bool.false_eq_true, if_false] at h ⊢
    refine ⟨a, ra, ?_⟩
    unfold outB at h
    cases q2 : opn a with
    | false => rfl
    | true => rw [q2] at h; cases h
theorem count_same {α : Type} {c c' : α → Bool} {f : α → Nm} {i : Nm} : ∀ {ps : List α}, (∀ p ∈ ps, c' p = (c p || eqN (f p) i)) → memS i (ps.map f) = false → (ps.filter fun p => !c' p).length = (ps.filter fun p => !c p).length
  | [], _, _ => rfl
  | p :: ps, h, hm => by
    have hm2 : (eqN (f p) i || memS i (ps.map f)) = false := hm
    simp only [Bool.or_eq_false_iff] at hm2
    have ih := count_same (fun q hq => h q (by simp [hq])) hm2.2
    have e := h p (by simp)
    rw [hm2.1, Bool.or_false] at e
    rw [List.filter_cons, List.filter_cons, e]
    cases c p <;> simp [ih]
theorem count_one {α : Type} {c c' : α → Bool} {f : α → Nm} {i : Nm} : ∀ {ps : List α}, (∀ p ∈ ps, c' p = (c p || eqN (f p) i)) → distN (ps.map f) = true → (∃ p ∈ ps, f p = i ∧ c p = false) → (ps.filter fun p => !c' p).length + 1 = (ps.filter fun p => !c p).length
  | [], _, _, ⟨_, h, _⟩ => by simp at h
  | p :: ps, h, hd, ⟨q, hq, e1, e2⟩ => by
    simp only [List.map_cons, distN, Bool.and_eq_true, Bool.not_eq_true'] at hd
    have e := h p (by simp)
    by_cases q1 : f p = i
    · have cs : c p = false := by
        rcases List.mem_cons.mp hq with rfl | hq
        · exact e2
        · have : memS (f p) (ps.map f) = true := memS_iff.mpr (by rw [q1, ← e1]; exact List.mem_map.mpr ⟨q, hq, rfl⟩)
          rw [hd.1] at this; cases this
      have hs := count_same (c := c) (c' := c') (f := f) (i := i) (ps := ps) (fun q hq => h q (List.mem_cons_of_mem _ hq)) (by rw [← q1]; exact hd.1)
      rw [q1, eqN_refl, Bool.or_true] at e
      rw [List.filter_cons, List.filter_cons, e, cs]
      simp [hs]
    · have hq : q ∈ ps := by
        rcases List.mem_cons.mp hq with rfl | hq
        · exact absurd e1 q1
        · exact hq
      have ih := count_one (c := c) (c' := c') (f := f) (i := i) (fun q hq => h q (by simp [hq])) hd.2 ⟨q, hq, e1, e2⟩
      have : eqN (f p) i = false := by
        cases q2 : eqN (f p) i with
        | false => rfl
        | true => exact absurd (eqN_iff.mp q2) q1
      rw [this, Bool.or_false] at e
      rw [List.filter_cons, List.filter_cons, e]
      cases c p <;> simp <;> omega
/-- a world as another one but for lids -/
structure SameW (w w' : Wr) : Prop where
  ok : WOk w'
  sk : w'.bs.map pr = w.bs.map pr
  ws : w'.ws = w.ws
theorem SameW.ns {w w' : Wr} (h : SameW w w') : w'.ns = w.ns := by rw [← ns_pr, ← ns_pr, h.sk]
theorem SameW.open {w w' : Wr} (h : SameW w w') (i : Nm) : SameW w (openW i w') := ⟨openW_ok h.ok, openW_pr.trans h.sk, h.ws⟩
/-- all clear: seen -/
theorem row_seen {w : Wr} (g : WOk w) {p : Nm} (hp : memS p w.ns = true) : ∀ (l : List Nm) (x : Nm), x ∈ seenM w p → (∀ q ∈ prsL (x :: l), nextP (w.bs.map pr) q.1 q.2 = true ∧ memS q.2 w.ns = true ∧ clearW w.bs q.1 q.2 = true) → ∀ y ∈ x :: l, y ∈ seenM w p
  | [], x, hx, _, y, hy => by rw [List.mem_singleton.mp hy]; exact hx
  | z :: l, x, hx, h, y, hy => by
    have hz := h (x, z) (by simp [prsL])
    have oz : okW w.bs x z = true := by
      have h1 := hz.1
      have h3 := hz.2.2
      rw [← nextW_P] at h1
      unfold okW
      unfold nextW at h1
      unfold clearW at h3
      cases q1 : rowOf w.bs x with
      | none => rw [q1] at h1; cases h1
      | some a =>
        cases q2 : rowOf w.bs z with
        | none => rw [q1, q2] at h1; cases h1
        | some b =>
          rw [q1, q2] at h1 h3
          show (nextM a b && letsM a b) = true
          rw [show nextM a b = true from h1, show letsM a b = true from h3]; rfl
    have sz := (seen_mem g hp).2 x hx z (memS_iff.mp hz.2.1) oz
    rcases List.mem_cons.mp hy with rfl | hy
    · exact hx
    · refine row_seen g hp l z sz (fun q hq => h q ?_) y hy
      unfold prsL at hq ⊢
      simp at hq ⊢
      exact .inr hq
end Ev.Mr
namespace Ev.Mr
local macro_rules | `(tactic| simp_arith [$ts,*]) => `(tactic| simp only [op2_add, op2_sub, op2_mul, op2_fdiv, op2_mod, op2_eq, op2_ne, op2_lt, op2_le, op2_gt, op2_ge, op2_is, op2_isnot, op2_in, op2_notin, op2_idx, bD_some, nD_some, ltD_int, ltD_str, leD_int, bi_len, bi_all, bi_dict, bi_dictT, bi_sorted, bi_tuple, bi_list, bi_max, bi_min, len_tup, len_lst, len_dk, seqI_tup, seqI_lst, seqP_tup, seqP_lst, seqs_tup, seqs_lst, isi_str_str, isi_tup_tup, is_non_non, is_str_non, is_lst_non, is_tup_non, idx_tup, idx_lst, idx_dkS, in_str, obind_some, omap_some, andK_bl, orK_bl, notK_bl, iteK_bl, chnK_bl, iffK_bl, evE_var, varK_some, evE_non, evE_bl, evE_int, evE_str, evE_glob, evE_tup, evE_lst, evE_lstH, evE_dct, evE_op, evE_chn, evE_and2, evE_or2, evE_not, evE_ife, evE_call, evE_bi, evE_isi, evE_slc, evE_rev, revK_lst, evE_skey, skeyK_lst, evE_told, evE_bor, borK_bl, borK_int, frz_nil, frz_none, frz_some, evE_idxO, idxOK_some, evEs_nil, evEs_cons, evI_seq, evI_enum, evI_zip, evI_range, evI_own, ownK_some, bndK_some, evS_set, evS_setO, own_lst, own_dk, evS_par, evPar_nil, evPar_cons, setPar_nil, setPar_cons, evFor_nil, evS_app, appK_some, evS_pop, evS_put, evS_putH, evS_exp, evS_ret, evS_raise, evS_iff, evS_for, evS_whl, evS_frz, frzK_some, evSS_nil, evSS_cons, out_nx, out_rt, out_exc, bindS_exc, R.bind_ok, R.bindS_ok, RS.bind_nx, RS.bind_rt, RS.bind_exc, R.bind_exc, bindS_exc, liftO_some, ite_and, ite_or, List.getElem?_cons_zero, List.getElem?_cons_succ, List.length_map, List.length_cons, List.length_nil, bindT, List.set_cons_zero, List.set_cons_succ, allB_map, allT, if_true, if_false, reduceCtorEq, Nat.reduceAdd, Nat.reduceLT, ↓reduceIte, decide_true, decide_false, Bool.and_true, Bool.true_and, Bool.false_and, Bool.and_false, Bool.or_false, Bool.false_or, Bool.or_true, Bool.true_or, Bool.not_true, Bool.not_false, Bool.false_eq_true, $ts,*])
section
variable {tab : Nat → Option FD} {con : Nat → Option D} {TD : Nat → Nat → Option D} {n : Nat} {st : HSt}
/-! ### k04: dim ways -/
structure TabK4 (tab : Nat → Option FD) (con : Nat → Option D) : Prop extends Tab4 tab con, TabO tab con where
  h38 : Is tab 38 2 2 b_law_cell
  h39 : Is tab 39 3 2 b_law_drawn
  h40 : Is tab 40 3 2 b_law_roll
  h41 : Is tab 41 3 2 b_law_rounds
  h44 : Is tab 44 10 2 b_law_any_world
  h55 : Is tab 55 2 1 b_law_names
  h56 : Is tab 56 2 1 b_law_outer
  h57 : Is tab 57 4 2 b_law_chain_up
  h58 : Is tab 58 6 1 b_law_sights
  h66 : Is tab 66 2 1 b_law_who
  h76 : Is tab 76 7 3 b_law_way
def k4 (a0 a1 a2 a3 a4 a5 a6 a7 a8 a9 a10 a11 a12 a13 : Sl) : EvEnv := [a0, a1, a2, a3, a4, a5, a6, a7, a8, a9, a10, a11, a12, a13]
/-- the pair stands in the sights just if it is clear -/
theorem clear_pairs {w : Wr} (g : WOk w) {x y : Nm} (hx : memS x w.ns = true) (hy : memS y w.ns = true) (hn : nextP (w.bs.map pr) x y = true) : inD st (.tup [.str x, .str y]) (.lst ((sightsM w.bs).map wD)) = some (clearW w.bs x y) := by
  obtain ⟨a, ra, ea, ma⟩ := rowOf_mem hx
  obtain ⟨b, rb, eb, mb⟩ := rowOf_mem hy
  rw [← nextW_P] at hn
  unfold nextW at hn
  rw [ra, rb] at hn
  have F := g.facts
  have lp := lets_pairs F ma mb hn
  rw [in_pairs (g.okn x (memS_iff.mp hx)) (g.okn y (memS_iff.mp hy)) fun p hp => sights_ok F hp]
  unfold clearW
  rw [ra, rb]
  dsimp only
  rw [lp, ea, eb]
def bP : SS := .cons (.iff (.op .notin (.tup (.cons (.var 9) (.cons (.var 10) .nil))) (.call 58 (.cons (.var 8) .nil))) (.cons (.set (.nm 11) (.ife (.op .eq (.op .idx (.call 56 (.cons (.var 2) .nil)) (.var 10)) (.var 9)) (.var 10) (.var 9))) (.cons (.set (.nm 12) (.call 64 (.cons (.var 8) (.cons (.var 4) (.cons (.var 5) .nil)))))
  (.cons (.set (.nm 8) (.call 74 (.cons (.var 8) (.cons (.tup (.cons (.str [111, 112, 101, 110]) (.cons (.var 11) .nil))) .nil)))) (.cons (.iff (.op .ne (.call 64 (.cons (.var 8) (.cons (.var 4) (.cons (.var 5) .nil)))) (.op .sub (.var 12) (.int 1))) (.cons (.ret (.bl false)) .nil) .nil) .nil)))) .nil) .nil
structure Sit (w : Wr) (s p t : Nm) : Prop where
  g : WOk w
  hp : placeOf w.ws s = some p
  hm : memS p w.ns = true
  hs : memS s (w.ws.map Prod.fst) = true
  ht : memS t w.ns = true
theorem Sit.same {w w' : Wr} {s p t : Nm} (h : Sit w s p t) (q : SameW w w') : Sit w' s p t := ⟨q.ok, by rw [q.ws]; exact h.hp, by rw [q.ns]; exact h.hm, by rw [q.ws]; exact h.hs, by rw [q.ns]; exact h.ht⟩
theorem run_bP (T : TabK4 tab con) {w w' : Wr} {s p t : Nm} (S : Sit w s p t) (q : SameW w w') {x y : Nm} (hxy : (x, y) ∈ prsL (wayP (w.bs.map pr) p t)) {a0 a1 a3 a6 a7 a11 a12 a13 : Sl} :
    ∃ w'' y11 y12, SameW w w'' ∧ (∀ q ∈ prsL (wayP (w.bs.map pr) p t), clearW w'.bs q.1 q.2 = true → clearW w''.bs q.1 q.2 = true) ∧ clearW w''.bs x y = true ∧
      evSS con ((evC tab con TD 100) (n + 7)) TD 100 (k4 a0 a1 (some (false, w.d)) a3 (some (false, .str s)) (some (false, .str t)) a6 a7 (some (false, w'.d)) (some (false, .str x)) (some (false, .str y)) a11 a12 a13) bP st
        = .nx (k4 a0 a1 (some (false, w.d)) a3 (some (false, .str s)) (some (false, .str t)) a6 a7 (some (false, w''.d)) (some (false, .str x)) (some (false, .str y)) y11 y12 a13) st := by
  have S' := S.same q
  have F := S.g.facts4 S.hm S.ht
  have gd := S.g.good
  have gd' := S'.g.good
  obtain ⟨f1, f2, f3, f4, f5⟩ := F.pr (x, y) hxy
  have all : ∀ p' ∈ prsL (wayP (w.bs.map pr) p t), memS p'.1 w'.ns = true ∧ memS p'.2 w'.ns = true := fun p' hp' => by
    have := F.pr p' hp'
    rw [q.ns, ← ns_pr]
    exact ⟨this.2.1, this.2.2.1⟩
  have hx := (all (x, y) hxy).1
  have hy := (all (x, y) hxy).2
  have ip := clear_pairs (st := st) q.ok hx hy (by rw [q.sk]; exact f1)
  have k1 := s_sights (n := n + 6) (con := con) (TD := TD) (fu := 100) (st := st) T.h58 gd'.len
  cases c : clearW w'.bs x y with
  | true =>
    rw [c] at ip
    refine ⟨w', a11, a12, q, fun _ _ h => h, c, ?_⟩
    unfold k4 bP
    simp_arith [k1, ip]
  | false =>
    rw [c] at ip
    have ei : innP (w'.bs.map pr) (x, y) = innP (w.bs.map pr) (x, y) := by rw [q.sk]
    obtain ⟨b, rb, nb⟩ := clear_not hx hy c
    rw [ei] at rb
    generalize hi : innP (w.bs.map pr) (x, y) = i at *
    have mi : memS i w'.ns = true := by rw [q.ns, ← ns_pr]; exact f5
    have ho : ∃ o, b.out = some o := by
      have ob := rowOf_out rb
      rw [outOf_P, q.sk] at ob
      unfold hasOut at f4
      rw [ob] at f4
      cases e : b.out with
      | none => rw [e] at f4; cases f4
      | some o => exact ⟨o, rfl⟩
    obtain ⟨o, ho⟩ := ho
    have co : ∀ p' ∈ prsL (wayP (w.bs.map pr) p t), clearW (openW i w').bs p'.1 p'.2 = (clearW w'.bs p'.1 p'.2 || eqN (innP (w.bs.map pr) p') i) := fun p' hp' => by
      have := clear_open (i := i) (all p' hp').1 (all p' hp').2
      rw [q.sk] at this
      exact this
    have q' := q.open i
    have S'' := S.same q'
    refine ⟨openW i w', some (false, .str i), some (false, .int (hind w'.bs (prsL (wayP (w.bs.map pr) p t))).length), q', fun p' hp' h => by rw [co p' hp', h]; rfl, by rw [co _ hxy, hi, eqN_refl, Bool.or_true], ?_⟩
    have d1 := s_dim (n := n) (con := con) (TD := TD) (st := st) T.toTab4 S'.g S'.hp S'.hm S'.hs S'.ht
    have d2 := s_dim (n := n) (con := con) (TD := TD) (st := st) T.toTab4 S''.g S''.hp S''.hm S''.hs S''.ht
    rw [q.sk] at d1
    rw [q'.sk] at d2
    have dn := s_done_open (n := n + 1) (con := con) (TD := TD) (st := st) T.toTabO S'.g.goodS rb ho mi nb
    have dn : (evC tab con TD 100) (n + 7) 74 [w'.d, .tup [.str [111, 112, 101, 110], .str i]] st = .ok (openW i w').d st := dn
    have cnt := count_one (c := fun p' => clearW w'.bs p'.1 p'.2) (c' := fun p' => clearW (openW i w').bs p'.1 p'.2) (f := innP (w.bs.map pr)) (i := i) co F.inn ⟨(x, y), hxy, hi, c⟩
    have cnt : (hind (openW i w').bs (prsL (wayP (w.bs.map pr) p t))).length + 1 = (hind w'.bs (prsL (wayP (w.bs.map pr) p t))).length := cnt
    obtain ⟨by_, rby, eby, mby⟩ := rowOf_mem (show memS y w.ns = true by rw [← q.ns]; exact hy)
    have oy := rowOf_out rby
    have oi : (if eqO by_.out x then y else x) = i := by
      rw [← hi]
      unfold innP
      rw [outOf_P] at oy
      rw [oy]
    have sb : ∀ u v : Nat, subD (.int u) (.int v) = some (.int ((u : Int) - v)) := fun _ _ => rfl
    have s11 : ∀ z8 z12, evS con ((evC tab con TD 100) (n + 7)) TD 100 (k4 a0 a1 (some (false, w.d)) a3 (some (false, .str s)) (some (false, .str t)) a6 a7 z8 (some (false, .str x)) (some (false, .str y)) a11 z12 a13) (.set (.nm 11) (.ife (.op .eq (.op .idx (.call 56 (.cons (.var 2) .nil)) (.var 10)) (.var 9)) (.var 10) (.var 9))) st
        = .nx (k4 a0 a1 (some (false, w.d)) a3 (some (false, .str s)) (some (false, .str t)) a6 a7 z8 (some (false, .str x)) (some (false, .str y)) (some (false, .str i)) z12 a13) st := fun z8 z12 => by
      unfold k4
      cases e : eqO by_.out x with
      | true =>
        rw [e] at oi
        simp_arith [s_outer T.h56 gd.len gd.dist, idx_out, oy, eq_oD, e]
        rw [← oi]; rfl
      | false =>
        rw [e] at oi
        simp_arith [s_outer T.h56 gd.len gd.dist, idx_out, oy, eq_oD, e]
        rw [← oi]; rfl
    have c0 : evE con ((evC tab con TD 100) (n + 7)) TD (k4 a0 a1 (some (false, w.d)) a3 (some (false, .str s)) (some (false, .str t)) a6 a7 (some (false, w'.d)) (some (false, .str x)) (some (false, .str y)) a11 a12 a13) (.op .notin (.tup (.cons (.var 9) (.cons (.var 10) .nil))) (.call 58 (.cons (.var 8) .nil))) st = .ok (.bl true) st := by
      unfold k4
      simp_arith [k1, ip]
    unfold bP
    rw [evSS_cons, evS_iff, c0, R.bindS_ok, iffK_bl, if_pos rfl, evSS_cons, s11, RS.bind_nx]
    unfold k4
    have e1 : ((hind w'.bs (prsL (wayP (w.bs.map pr) p t))).length : Int) - 1 = ((hind (openW i w').bs (prsL (wayP (w.bs.map pr) p t))).length : Int) := by omega
    have sb : subD (.int (hind w'.bs (prsL (wayP (w.bs.map pr) p t))).length) (.int 1) = some (.int ((hind (openW i w').bs (prsL (wayP (w.bs.map pr) p t))).length)) := by rw [← e1]; rfl
    simp_arith [d1, d2, dn, sb, eq_ints, beq_self_eq_true]
end
end Ev.Mr
namespace Ev.Mr
local macro_rules | `(tactic| simp_arith [$ts,*]) => `(tactic| simp only [op2_add, op2_sub, op2_mul, op2_fdiv, op2_mod, op2_eq, op2_ne, op2_lt, op2_le, op2_gt, op2_ge, op2_is, op2_isnot, op2_in, op2_notin, op2_idx, bD_some, nD_some, ltD_int, ltD_str, leD_int, bi_len, bi_all, bi_dict, bi_dictT, bi_sorted, bi_tuple, bi_list, bi_max, bi_min, len_tup, len_lst, len_dk, seqI_tup, seqI_lst, seqP_tup, seqP_lst, seqs_tup, seqs_lst, isi_str_str, isi_tup_tup, is_non_non, is_str_non, is_lst_non, is_tup_non, idx_tup, idx_lst, idx_dkS, in_str, obind_some, omap_some, andK_bl, orK_bl, notK_bl, iteK_bl, chnK_bl, iffK_bl, evE_var, varK_some, evE_non, evE_bl, evE_int, evE_str, evE_glob, evE_tup, evE_lst, evE_lstH, evE_dct, evE_op, evE_chn, evE_and2, evE_or2, evE_not, evE_ife, evE_call, evE_bi, evE_isi, evE_slc, evE_rev, revK_lst, evE_skey, skeyK_lst, evE_told, evE_bor, borK_bl, borK_int, frz_nil, frz_none, frz_some, evE_idxO, idxOK_some, evEs_nil, evEs_cons, evI_seq, evI_enum, evI_zip, evI_range, evI_own, ownK_some, bndK_some, evS_set, evS_setO, own_lst, own_dk, evS_par, evPar_nil, evPar_cons, setPar_nil, setPar_cons, evFor_nil, evS_app, appK_some, evS_pop, evS_put, evS_putH, evS_exp, evS_ret, evS_raise, evS_iff, evS_for, evS_whl, evS_frz, frzK_some, evSS_nil, evSS_cons, out_nx, out_rt, out_exc, bindS_exc, R.bind_ok, R.bindS_ok, RS.bind_nx, RS.bind_rt, RS.bind_exc, R.bind_exc, bindS_exc, liftO_some, ite_and, ite_or, List.getElem?_cons_zero, List.getElem?_cons_succ, List.length_map, List.length_cons, List.length_nil, bindT, List.set_cons_zero, List.set_cons_succ, allB_map, allT, if_true, if_false, reduceCtorEq, Nat.reduceAdd, Nat.reduceLT, ↓reduceIte, decide_true, decide_false, Bool.and_true, Bool.true_and, Bool.false_and, Bool.and_false, Bool.or_false, Bool.false_or, Bool.or_true, Bool.true_or, Bool.not_true, Bool.not_false, Bool.false_eq_true, $ts,*])
section
variable {tab : Nat → Option FD} {con : Nat → Option D} {TD : Nat → Nat → Option D} {n : Nat} {st : HSt}
theorem run_pairs (T : TabK4 tab con) {w : Wr} {s p t : Nm} (S : Sit w s p t) {a0 a1 a3 a6 a7 a13 : Sl} : ∀ (rest : List (Nm × Nm)) (w' : Wr) (a9 a10 a11 a12 : Sl), SameW w w' → (∀ q ∈ rest, q ∈ prsL (wayP (w.bs.map pr) p t)) →
    ∃ w'' y9 y10 y11 y12, SameW w w'' ∧ (∀ q ∈ prsL (wayP (w.bs.map pr) p t), clearW w'.bs q.1 q.2 = true → clearW w''.bs q.1 q.2 = true) ∧ (∀ q ∈ rest, clearW w''.bs q.1 q.2 = true) ∧
      evFor (fun env st => evSS con ((evC tab con TD 100) (n + 7)) TD 100 env bP st) (.tp [.nm 9, .nm 10]) (rest.map wD) (k4 a0 a1 (some (false, w.d)) a3 (some (false, .str s)) (some (false, .str t)) a6 a7 (some (false, w'.d)) a9 a10 a11 a12 a13) st
        = .nx (k4 a0 a1 (some (false, w.d)) a3 (some (false, .str s)) (some (false, .str t)) a6 a7 (some (false, w''.d)) y9 y10 y11 y12 a13) st
  | [], w', a9, a10, a11, a12, q, _ => ⟨w', a9, a10, a11, a12, q, fun _ _ h => h, fun _ h => by simp at h, rfl⟩
  | (x, y) :: rest, w', a9, a10, a11, a12, q, hr => by
    have hxy := hr (x, y) (by simp)
    obtain ⟨w1, y11, y12, q1, m1, c1, e1⟩ := run_bP (n := n) (con := con) (TD := TD) (st := st) T S q hxy (a0 := a0) (a1 := a1) (a3 := a3) (a6 := a6) (a7 := a7) (a11 := a11) (a12 := a12) (a13 := a13)
    obtain ⟨w2, z9, z10, z11, z12, q2, m2, c2, e2⟩ := run_pairs T S (a0 := a0) (a1 := a1) (a3 := a3) (a6 := a6) (a7 := a7) (a13 := a13) rest w1 (some (false, .str x)) (some (false, .str y)) y11 y12 q1 (fun q' h => hr q' (by simp [h]))
    refine ⟨w2, z9, z10, z11, z12, q2, fun q' h h1 => m2 q' h (m1 q' h h1), fun q' h => ?_, ?_⟩
    · rcases List.mem_cons.mp h with rfl | h
      · exact m2 _ hxy c1
      · exact c2 q' h
    · rw [List.map_cons, evFor_cons (env' := k4 a0 a1 (some (false, w.d)) a3 (some (false, .str s)) (some (false, .str t)) a6 a7 (some (false, w'.d)) (some (false, .str x)) (some (false, .str y)) a11 a12 a13) (by rfl), e1, RS.bind_nx, e2]
def bB : SS := .cons (.set (.nm 6) (.call 76 (.cons (.var 2) (.cons (.op .idx (.bi .dict (.cons (.op .idx (.var 2) (.int 1)) .nil)) (.var 4)) (.cons (.var 5) .nil))))) (.cons (.par [7, 8] [(false, (.x2 .zipL (.var 6) (.slc (.var 6) (.int 1) .non))), (false, (.var 2))])
  (.cons (.iff (.op .ne (.call 64 (.cons (.var 2) (.cons (.var 4) (.cons (.var 5) .nil)))) (.bi .len (.cons (.lcf [13] (.nm 13) (.seq (.var 7)) (.var 13) (.op .notin (.var 13) (.call 58 (.cons (.var 2) .nil)))) .nil))) (.cons (.ret (.bl false)) .nil) .nil)
  (.cons (.iff (.and2 (.op .in_ (.var 5) (.call 28 (.cons (.var 2) (.cons (.var 4) .nil)))) (.op .ne (.call 61 (.cons (.var 2) (.cons (.var 4) (.cons (.var 5) .nil)))) (.var 6))) (.cons (.ret (.bl false)) .nil) .nil)
  (.cons (.for_ (.tp [(.nm 9), (.nm 10)]) (.seq (.var 7)) bP) (.cons (.iff (.op .notin (.var 5) (.call 28 (.cons (.var 8) (.cons (.var 4) .nil)))) (.cons (.ret (.bl false)) .nil) .nil) .nil)))))
theorem run_bB (T : TabK4 tab con) {w : Wr} {s p t : Nm} (S : Sit w s p t) {a0 a1 a3 a6 a7 a8 a9 a10 a11 a12 a13 : Sl} :
    ∃ y6 y7 y8 y9 y10 y11 y12, evSS con ((evC tab con TD 100) (n + 7)) TD 100 (k4 a0 a1 (some (false, w.d)) a3 (some (false, .str s)) (some (false, .str t)) a6 a7 a8 a9 a10 a11 a12 a13) bB st
        = .nx (k4 a0 a1 (some (false, w.d)) a3 (some (false, .str s)) (some (false, .str t)) y6 y7 y8 y9 y10 y11 y12 a13) st := by
  have F := S.g.facts4 S.hm S.ht
  have gd := S.g.good
  have gs := S.g.goodS
  have lw := s_law_way (n := n + 4) (con := con) (TD := TD) (st := st) T.h56 T.h57 T.h76 S.g S.hm S.ht
  have dc := dict_ws (st := st) gs.wdist
  simp only [bi_dictT] at dc
  have di : idxD st (ahD (toAh w.ws)) (.str s) = some (.str p) := by rw [idx_ah, look_toAh, S.hp]; rfl
  have hl := F.len
  have fpr := F.pr
  have fhd := F.hd
  have ftl := F.tl
  have oks : ∀ x ∈ wayP (w.bs.map pr) p t, okS x = true := fun x hx => S.g.okn x (by have := F.mem x hx; rw [ns_pr] at this; exact memS_iff.mp this)
  have d1 := s_dim (n := n) (con := con) (TD := TD) (st := st) T.toTab4 S.g S.hp S.hm S.hs S.ht
  have w1 := s_way (n := n) (con := con) (TD := TD) (st := st) T.toTab4 S.g S.hp S.hm S.hs S.ht
  have sn := s_seen (n := n + 1) (con := con) (TD := TD) (st := st) T.toTabS gs S.hp S.hm S.hs
  have sn : (evC tab con TD 100) (n + 7) 28 [w.d, .str s] st = .ok (.lst ((seenM w p).map .str)) st := sn
  have k1 := s_sights (n := n + 6) (con := con) (TD := TD) (fu := 100) (st := st) T.h58 gd.len
  obtain ⟨w'', y9, y10, y11, y12, q'', _, cl, loop⟩ := run_pairs (n := n) (con := con) (TD := TD) (st := st) T S (a0 := a0) (a1 := a1) (a3 := a3) (a6 := some (false, .lst ((wayP (w.bs.map pr) p t).map .str))) (a7 := some (false, .lst ((prsL (wayP (w.bs.map pr) p t)).map wD))) (a13 := a13)
    (prsL (wayP (w.bs.map pr) p t)) w a9 a10 a11 a12 ⟨S.g, rfl, rfl⟩ (fun _ h => h)
  have S'' := S.same q''
  have sn2 := s_seen (n := n + 1) (con := con) (TD := TD) (st := st) T.toTabS S''.g.goodS S''.hp S''.hm S''.hs
  have sn2 : (evC tab con TD 100) (n + 7) 28 [w''.d, .str s] st = .ok (.lst ((seenM w'' p).map .str)) st := sn2
  have see : memS t (seenM w'' p) = true := by
    have h1 := (seen_mem S''.g S''.hm).1
    cases e : wayP (w.bs.map pr) p t with
    | nil => rw [e] at fhd; cases fhd
    | cons x l =>
      rw [e] at fhd ftl
      have ex : x = p := eqN_iff.mp fhd
      subst ex
      refine memS_iff.mpr (row_seen S''.g S''.hm l x h1 (fun q hq => ?_) t (memS_iff.mp ftl))
      have f := fpr q (by rw [e]; exact hq)
      refine ⟨by rw [q''.sk]; exact f.1, by rw [q''.ns, ← ns_pr]; exact f.2.2.1, cl q (by rw [e]; exact hq)⟩
  have i2 := in_strs (st := st) (s := t) (l := seenM w'' p)
  rw [show (seenM w'' p).any (eqN · t) = memS t (seenM w'' p) from rfl, see] at i2
  have i1 := in_strs (st := st) (s := t) (l := seenM w p)
  rw [show (seenM w p).any (eqN · t) = memS t (seenM w p) from rfl] at i1
  have k4' : ∀ z8, evE con ((evC tab con TD 100) (n + 7)) TD (k4 a0 a1 (some (false, w.d)) a3 (some (false, .str s)) (some (false, .str t)) (some (false, .lst ((wayP (w.bs.map pr) p t).map .str))) (some (false, .lst ((prsL (wayP (w.bs.map pr) p t)).map wD))) z8 a9 a10 a11 a12 a13)
      (.lcf [13] (.nm 13) (.seq (.var 7)) (.var 13) (.op .notin (.var 13) (.call 58 (.cons (.var 2) .nil)))) st = .ok (.lst ((hind w.bs (prsL (wayP (w.bs.map pr) p t))).map wD)) st := fun z8 => by
    refine evE_lcf (ds := (prsL (wayP (w.bs.map pr) p t)).map wD) (by unfold k4; simp_arith []) (by simp [prsL]; omega) (evLC_filter fun q hq => ⟨k4 a0 a1 (some (false, w.d)) a3 (some (false, .str s)) (some (false, .str t)) (some (false, .lst ((wayP (w.bs.map pr) p t).map .str))) (some (false, .lst ((prsL (wayP (w.bs.map pr) p t)).map wD))) z8 a9 a10 a11 a12 (some (false, wD q)), by rfl, ?_, fun _ => by unfold k4; simp_arith []⟩)
    obtain ⟨h1, h2, h3, _⟩ := fpr q hq
    rw [ns_pr] at h2 h3
    have ip := clear_pairs (st := st) S.g h2 h3 h1
    have ip : inD st (wD q) (.lst ((sightsM w.bs).map wD)) = some (clearW w.bs q.1 q.2) := ip
    unfold k4
    simp_arith [k1, ip]
  generalize hr : wayP (w.bs.map pr) p t = row at *
  have sl : slcD st (.lst (row.map .str)) (.int 1) .non = some (.lst ((row.drop 1).map .str)) := by
    cases row with
    | nil => rfl
    | cons x l => rw [List.map_cons, slc_lst1]; rfl
  have zl : x2D .zipL (.lst (row.map .str)) (.lst ((row.drop 1).map .str)) = some (.lst ((prsL row).map wD)) := by
    show (if (row.map D.str).length ≤ 1000 then some (D.lst (zipD (row.map .str) ((row.drop 1).map .str))) else none) = _
    rw [if_pos (by simp; omega), zipD_map]; rfl
  have er := eq_lst_strs oks
  have s1 : evS con ((evC tab con TD 100) (n + 7)) TD 100 (k4 a0 a1 (some (false, w.d)) a3 (some (false, .str s)) (some (false, .str t)) a6 a7 a8 a9 a10 a11 a12 a13) (.set (.nm 6) (.call 76 (.cons (.var 2) (.cons (.op .idx (.bi .dict (.cons (.op .idx (.var 2) (.int 1)) .nil)) (.var 4)) (.cons (.var 5) .nil))))) st
      = .nx (k4 a0 a1 (some (false, w.d)) a3 (some (false, .str s)) (some (false, .str t)) (some (false, .lst (row.map .str))) a7 a8 a9 a10 a11 a12 a13) st := by
    unfold k4
    simp_arith [idxW1, dc, di, lw]
  have s2 : evS con ((evC tab con TD 100) (n + 7)) TD 100 (k4 a0 a1 (some (false, w.d)) a3 (some (false, .str s)) (some (false, .str t)) (some (false, .lst (row.map .str))) a7 a8 a9 a10 a11 a12 a13) (.par [7, 8] [(false, (.x2 .zipL (.var 6) (.slc (.var 6) (.int 1) .non))), (false, (.var 2))]) st
      = .nx (k4 a0 a1 (some (false, w.d)) a3 (some (false, .str s)) (some (false, .str t)) (some (false, .lst (row.map .str))) (some (false, .lst ((prsL row).map wD))) (some (false, w.d)) a9 a10 a11 a12 a13) st := by
    unfold k4
    simp_arith [evE_x2, x2ok, guardP, sl, zl, chkP, isNonE]
  have s3 : evS con ((evC tab con TD 100) (n + 7)) TD 100 (k4 a0 a1 (some (false, w.d)) a3 (some (false, .str s)) (some (false, .str t)) (some (false, .lst (row.map .str))) (some (false, .lst ((prsL row).map wD))) (some (false, w.d)) a9 a10 a11 a12 a13)
      (.iff (.op .ne (.call 64 (.cons (.var 2) (.cons (.var 4) (.cons (.var 5) .nil)))) (.bi .len (.cons (.lcf [13] (.nm 13) (.seq (.var 7)) (.var 13) (.op .notin (.var 13) (.call 58 (.cons (.var 2) .nil)))) .nil))) (.cons (.ret (.bl false)) .nil) .nil) st
      = .nx (k4 a0 a1 (some (false, w.d)) a3 (some (false, .str s)) (some (false, .str t)) (some (false, .lst (row.map .str))) (some (false, .lst ((prsL row).map wD))) (some (false, w.d)) a9 a10 a11 a12 a13) st := by
    have k4' := k4' (some (false, w.d))
    unfold k4 at k4' ⊢
    simp_arith [k4', d1, eq_ints, beq_self_eq_true]
  have s4 : evS con ((evC tab con TD 100) (n + 7)) TD 100 (k4 a0 a1 (some (false, w.d)) a3 (some (false, .str s)) (some (false, .str t)) (some (false, .lst (row.map .str))) (some (false, .lst ((prsL row).map wD))) (some (false, w.d)) a9 a10 a11 a12 a13)
      (.iff (.and2 (.op .in_ (.var 5) (.call 28 (.cons (.var 2) (.cons (.var 4) .nil)))) (.op .ne (.call 61 (.cons (.var 2) (.cons (.var 4) (.cons (.var 5) .nil)))) (.var 6))) (.cons (.ret (.bl false)) .nil) .nil) st
      = .nx (k4 a0 a1 (some (false, w.d)) a3 (some (false, .str s)) (some (false, .str t)) (some (false, .lst (row.map .str))) (some (false, .lst ((prsL row).map wD))) (some (false, w.d)) a9 a10 a11 a12 a13) st := by
    unfold k4
    cases e : memS t (seenM w p) with
    | true =>
      rw [e] at i1 w1
      rw [if_pos rfl] at w1
      simp_arith [sn, i1, w1, er]
    | false =>
      rw [e] at i1
      simp_arith [sn, i1]
  have s5 : evI con ((evC tab con TD 100) (n + 7)) TD (k4 a0 a1 (some (false, w.d)) a3 (some (false, .str s)) (some (false, .str t)) (some (false, .lst (row.map .str))) (some (false, .lst ((prsL row).map wD))) (some (false, w.d)) a9 a10 a11 a12 a13) (.seq (.var 7)) st = .ok ((prsL row).map wD) st := by
    unfold k4
    simp_arith []
  have s6 : evS con ((evC tab con TD 100) (n + 7)) TD 100 (k4 a0 a1 (some (false, w.d)) a3 (some (false, .str s)) (some (false, .str t)) (some (false, .lst (row.map .str))) (some (false, .lst ((prsL row).map wD))) (some (false, w''.d)) y9 y10 y11 y12 a13) (.iff (.op .notin (.var 5) (.call 28 (.cons (.var 8) (.cons (.var 4) .nil)))) (.cons (.ret (.bl false)) .nil) .nil) st
      = .nx (k4 a0 a1 (some (false, w.d)) a3 (some (false, .str s)) (some (false, .str t)) (some (false, .lst (row.map .str))) (some (false, .lst ((prsL row).map wD))) (some (false, w''.d)) y9 y10 y11 y12 a13) st := by
    unfold k4
    simp_arith [sn2, i2]
  unfold bB
  exact ⟨_, _, _, _, _, _, _, by rw [evSS_cons, s1, RS.bind_nx, evSS_cons, s2, RS.bind_nx, evSS_cons, s3, RS.bind_nx, evSS_cons, s4, RS.bind_nx, evSS_cons, evS_for, s5, R.bindS_ok, loop, RS.bind_nx, evSS_cons, s6, RS.bind_nx, evSS_nil]⟩
end
end Ev.Mr
namespace Ev.Mr
local macro_rules | `(tactic| simp_arith [$ts,*]) => `(tactic| simp only [op2_add, op2_sub, op2_mul, op2_fdiv, op2_mod, op2_eq, op2_ne, op2_lt, op2_le, op2_gt, op2_ge, op2_is, op2_isnot, op2_in, op2_notin, op2_idx, bD_some, nD_some, ltD_int, ltD_str, leD_int, bi_len, bi_all, bi_dict, bi_dictT, bi_sorted, bi_tuple, bi_list, bi_max, bi_min, len_tup, len_lst, len_dk, seqI_tup, seqI_lst, seqP_tup, seqP_lst, seqs_tup, seqs_lst, isi_str_str, isi_tup_tup, is_non_non, is_str_non, is_lst_non, is_tup_non, idx_tup, idx_lst, idx_dkS, in_str, obind_some, omap_some, andK_bl, orK_bl, notK_bl, iteK_bl, chnK_bl, iffK_bl, evE_var, varK_some, evE_non, evE_bl, evE_int, evE_str, evE_glob, evE_tup, evE_lst, evE_lstH, evE_dct, evE_op, evE_chn, evE_and2, evE_or2, evE_not, evE_ife, evE_call, evE_bi, evE_isi, evE_slc, evE_rev, revK_lst, evE_skey, skeyK_lst, evE_told, evE_bor, borK_bl, borK_int, frz_nil, frz_none, frz_some, evE_idxO, idxOK_some, evEs_nil, evEs_cons, evI_seq, evI_enum, evI_zip, evI_range, evI_own, ownK_some, bndK_some, evS_set, evS_setO, own_lst, own_dk, evS_par, evPar_nil, evPar_cons, setPar_nil, setPar_cons, evFor_nil, evS_app, appK_some, evS_pop, evS_put, evS_putH, evS_exp, evS_ret, evS_raise, evS_iff, evS_for, evS_whl, evS_frz, frzK_some, evSS_nil, evSS_cons, out_nx, out_rt, out_exc, bindS_exc, R.bind_ok, R.bindS_ok, RS.bind_nx, RS.bind_rt, RS.bind_exc, R.bind_exc, bindS_exc, liftO_some, ite_and, ite_or, List.getElem?_cons_zero, List.getElem?_cons_succ, List.length_map, List.length_cons, List.length_nil, bindT, List.set_cons_zero, List.set_cons_succ, allB_map, allT, if_true, if_false, reduceCtorEq, Nat.reduceAdd, Nat.reduceLT, ↓reduceIte, decide_true, decide_false, Bool.and_true, Bool.true_and, Bool.false_and, Bool.and_false, Bool.or_false, Bool.false_or, Bool.or_true, Bool.true_or, Bool.not_true, Bool.not_false, Bool.false_eq_true, $ts,*])
theorem place_mem {s : Nm} : ∀ {l : List (Nm × Nm)}, s ∈ l.map Prod.fst → ∃ p, placeOf l s = some p ∧ ∃ q ∈ l, q.2 = p
  | [], h => by simp at h
  | x :: l, h => by
    unfold placeOf
    rw [List.find?_cons]
    cases q : eqN x.1 s with
    | true => exact ⟨x.2, rfl, x, by simp, rfl⟩
    | false =>
      have h : s ∈ l.map Prod.fst := by
        rcases List.mem_cons.mp h with e | h
        · rw [e, eqN_refl] at q; cases q
        · exact h
      obtain ⟨p, h1, y, hy, e⟩ := place_mem h
      exact ⟨p, h1, y, by simp [hy], e⟩
theorem WOk.sit {w : Wr} (g : WOk w) {s t : Nm} (hs : s ∈ w.ws.map Prod.fst) (ht : t ∈ w.ns) : ∃ p, Sit w s p t := by
  obtain ⟨p, h1, q, hq, e⟩ := place_mem hs
  exact ⟨p, g, h1, by rw [← e]; exact memS_iff.mpr (g.pl q hq), memS_iff.mpr hs, memS_iff.mpr ht⟩
section
variable {tab : Nat → Option FD} {con : Nat → Option D} {TD : Nat → Nat → Option D} {n : Nat} {st : HSt}
theorem run_boxes (T : TabK4 tab con) {w : Wr} (g : WOk w) {s : Nm} (hs : s ∈ w.ws.map Prod.fst) {a0 a1 a5 a6 a7 a8 a9 a10 a11 a12 a13 : Sl} :
    ∃ y5 y6 y7 y8 y9 y10 y11 y12, evSS con ((evC tab con TD 100) (n + 7)) TD 100 (k4 a0 a1 (some (false, w.d)) (some (false, .lst (w.ns.map .str))) (some (false, .str s)) a5 a6 a7 a8 a9 a10 a11 a12 a13) (.cons (.for_ (.nm 5) (.seq (.var 3)) bB) .nil) st
        = .nx (k4 a0 a1 (some (false, w.d)) (some (false, .lst (w.ns.map .str))) (some (false, .str s)) y5 y6 y7 y8 y9 y10 y11 y12 a13) st := by
  obtain ⟨env', st', l, rfl, y5, y6, y7, y8, y9, y10, y11, y12, rfl⟩ := evFor_inv (f := fun env st => evSS con ((evC tab con TD 100) (n + 7)) TD 100 env bB st) (t := .nm 5) (xs := w.ns.map .str)
    (P := fun env st' => st' = st ∧ ∃ y5 y6 y7 y8 y9 y10 y11 y12, env = k4 a0 a1 (some (false, w.d)) (some (false, .lst (w.ns.map .str))) (some (false, .str s)) y5 y6 y7 y8 y9 y10 y11 y12 a13)
    (fun x hx env st' ⟨q1, y5, y6, y7, y8, y9, y10, y11, y12, q2⟩ => by
      obtain ⟨t, ht, rfl⟩ := List.mem_map.mp hx
      subst q1 q2
      obtain ⟨p, S⟩ := g.sit hs ht
      obtain ⟨z6, z7, z8, z9, z10, z11, z12, e⟩ := run_bB (n := n) (con := con) (TD := TD) (st := st') T S (a0 := a0) (a1 := a1) (a3 := some (false, .lst (w.ns.map .str))) (a6 := y6) (a7 := y7) (a8 := y8) (a9 := y9) (a10 := y10) (a11 := y11) (a12 := y12) (a13 := a13)
      exact ⟨_, by rfl, _, _, e, rfl, _, _, _, _, _, _, _, _, rfl⟩)
    (k4 a0 a1 (some (false, w.d)) (some (false, .lst (w.ns.map .str))) (some (false, .str s)) a5 a6 a7 a8 a9 a10 a11 a12 a13) st ⟨rfl, _, _, _, _, _, _, _, _, rfl⟩
  have s5 : evI con ((evC tab con TD 100) (n + 7)) TD (k4 a0 a1 (some (false, w.d)) (some (false, .lst (w.ns.map .str))) (some (false, .str s)) a5 a6 a7 a8 a9 a10 a11 a12 a13) (.seq (.var 3)) st' = .ok (w.ns.map .str) st' := by
    unfold k4
    simp_arith []
  exact ⟨_, _, _, _, _, _, _, _, by rw [evSS_cons, evS_for, s5, R.bindS_ok, l, RS.bind_nx, evSS_nil]⟩
def lawB4 : SS := .cons (.set (.nm 2) (.call 44 (.cons (.var 1) (.cons (.int 4) .nil)))) (.cons (.set (.nm 3) (.call 55 (.cons (.var 2) .nil))) (.cons (.for_ (.nm 4) (.seq (.call 66 (.cons (.var 2) .nil))) (.cons (.for_ (.nm 5) (.seq (.var 3)) bB) .nil)) .nil))
theorem run_lawB4 (T : TabK4 tab con) {k : Nat} (hk : IsDie st k) {a0 a2 a3 a4 a5 a6 a7 a8 a9 a10 a11 a12 a13 : Sl} :
    ∃ y2 y3 y4 y5 y6 y7 y8 y9 y10 y11 y12 a b, evSS con ((evC tab con TD 100) (n + 7)) TD 100 (k4 a0 (some (false, .hnd k)) a2 a3 a4 a5 a6 a7 a8 a9 a10 a11 a12 a13) lawB4 st = .nx (k4 a0 (some (false, .hnd k)) y2 y3 y4 y5 y6 y7 y8 y9 y10 y11 y12 a13) (st.set k (dieH a b)) := by
  obtain ⟨w, a, b, g, e1⟩ := s_any_world_v2 (n := n + 4) (con := con) (TD := TD) (fu := 100) (st := st) (high := 4) T.h39 T.h40 T.h44 hk (by decide) (by decide)
  have gd := g.good
  have s1 : evS con ((evC tab con TD 100) (n + 7)) TD 100 (k4 a0 (some (false, .hnd k)) a2 a3 a4 a5 a6 a7 a8 a9 a10 a11 a12 a13) (.set (.nm 2) (.call 44 (.cons (.var 1) (.cons (.int 4) .nil)))) st = .nx (k4 a0 (some (false, .hnd k)) (some (false, w.d)) a3 a4 a5 a6 a7 a8 a9 a10 a11 a12 a13) (st.set k (dieH a b)) := by
    unfold k4
    simp_arith [e1]
  have s2 : evS con ((evC tab con TD 100) (n + 7)) TD 100 (k4 a0 (some (false, .hnd k)) (some (false, w.d)) a3 a4 a5 a6 a7 a8 a9 a10 a11 a12 a13) (.set (.nm 3) (.call 55 (.cons (.var 2) .nil))) (st.set k (dieH a b))
      = .nx (k4 a0 (some (false, .hnd k)) (some (false, w.d)) (some (false, .lst (w.ns.map .str))) a4 a5 a6 a7 a8 a9 a10 a11 a12 a13) (st.set k (dieH a b)) := by
    unfold k4
    simp_arith [s_names T.h55 gd.len]
  obtain ⟨env', st', l, rfl, y4, y5, y6, y7, y8, y9, y10, y11, y12, rfl⟩ := evFor_inv (f := fun env st => evSS con ((evC tab con TD 100) (n + 7)) TD 100 env (.cons (.for_ (.nm 5) (.seq (.var 3)) bB) .nil) st) (t := .nm 4) (xs := (w.ws.map Prod.fst).map .str)
    (P := fun env st' => st' = st.set k (dieH a b) ∧ ∃ y4 y5 y6 y7 y8 y9 y10 y11 y12, env = k4 a0 (some (false, .hnd k)) (some (false, w.d)) (some (false, .lst (w.ns.map .str))) y4 y5 y6 y7 y8 y9 y10 y11 y12 a13)
    (fun x hx env st' ⟨q1, y4, y5, y6, y7, y8, y9, y10, y11, y12, q2⟩ => by
      obtain ⟨s, hs, rfl⟩ := List.mem_map.mp hx
      subst q1 q2
      obtain ⟨z5, z6, z7, z8, z9, z10, z11, z12, e⟩ := run_boxes (n := n) (con := con) (TD := TD) (st := st.set k (dieH a b)) T g hs (a0 := a0) (a1 := some (false, .hnd k)) (a5 := y5) (a6 := y6) (a7 := y7) (a8 := y8) (a9 := y9) (a10 := y10) (a11 := y11) (a12 := y12) (a13 := a13)
      exact ⟨_, by rfl, _, _, e, rfl, _, _, _, _, _, _, _, _, _, rfl⟩)
    (k4 a0 (some (false, .hnd k)) (some (false, w.d)) (some (false, .lst (w.ns.map .str))) a4 a5 a6 a7 a8 a9 a10 a11 a12 a13) (st.set k (dieH a b)) ⟨rfl, _, _, _, _, _, _, _, _, _, rfl⟩
  have s3 : evI con ((evC tab con TD 100) (n + 7)) TD (k4 a0 (some (false, .hnd k)) (some (false, w.d)) (some (false, .lst (w.ns.map .str))) a4 a5 a6 a7 a8 a9 a10 a11 a12 a13) (.seq (.call 66 (.cons (.var 2) .nil))) (st.set k (dieH a b)) = .ok ((w.ws.map Prod.fst).map .str) (st.set k (dieH a b)) := by
    unfold k4
    simp_arith [s_who T.h66 gd.wlen]
  unfold lawB4
  exact ⟨_, _, _, _, _, _, _, _, _, _, _, a, b, by rw [evSS_cons, s1, RS.bind_nx, evSS_cons, s2, RS.bind_nx, evSS_cons, evS_for, s3, R.bindS_ok, l, RS.bind_nx, evSS_nil]⟩
theorem k04_plain (T : TabK4 tab con) (h77 : Is tab 77 14 1 b_law_k04) {ns : List Int} (hn : ns.length ≤ 1000) : ∃ st', (evC tab con TD 100) (n + 8) 77 [.fl (ns.map .int)] [] = .ok (.bl true) st' := by
  obtain ⟨cs, e1⟩ := s_rounds (n := n + 5) (con := con) (TD := TD) (fu := 100) (high := 5) T.h38 T.h41 hn (by decide)
  rw [evC_succ h77]
  show ∃ st', (evSS con ((evC tab con TD 100) (n + 7)) TD 100 (k4 (some (false, .fl (ns.map .int))) none none none none none none none none none none none none none) (.cons (.for_ (.nm 1) (.seq (.call 41 (.cons (.var 0) (.cons (.int 5) .nil)))) lawB4) (.cons (.ret (.bl true)) .nil)) []).out = .ok (.bl true) st'
  obtain ⟨env, st, l1, hd, x1, x2, x3, x4, x5, x6, x7, x8, x9, x10, x11, x12, rfl⟩ := evFor_inv (f := fun env st => evSS con ((evC tab con TD 100) (n + 7)) TD 100 env lawB4 st) (t := .nm 1) (xs := hnds 0 cs.length)
    (P := fun env st' => (∀ k < cs.length, IsDie st' k) ∧ ∃ x1 x2 x3 x4 x5 x6 x7 x8 x9 x10 x11 x12, env = k4 (some (false, .fl (ns.map .int))) x1 x2 x3 x4 x5 x6 x7 x8 x9 x10 x11 x12 none)
    (fun x hx env st' ⟨q1, x1, x2, x3, x4, x5, x6, x7, x8, x9, x10, x11, x12, q2⟩ => by
      obtain ⟨k, _, hk, rfl⟩ := mem_hnds hx
      subst q2
      obtain ⟨y2, y3, y4, y5, y6, y7, y8, y9, y10, y11, y12, a, b, e⟩ := run_lawB4 (n := n) (con := con) (TD := TD) (st := st') T (q1 k (by omega)) (a0 := some (false, .fl (ns.map .int))) (a2 := x2) (a3 := x3) (a4 := x4) (a5 := x5) (a6 := x6) (a7 := x7) (a8 := x8) (a9 := x9) (a10 := x10) (a11 := x11) (a12 := x12) (a13 := none)
      refine ⟨_, by rfl, _, _, e, fun j hj => ?_, _, _, _, _, _, _, _, _, _, _, _, _, rfl⟩
      by_cases q : k = j
      · subst q; exact (q1 k hj).set a b
      · obtain ⟨c, d, e⟩ := q1 j hj
        exact ⟨c, d, by rw [List.getElem?_set_ne q]; exact e⟩)
    (k4 (some (false, .fl (ns.map .int))) none none none none none none none none none none none none none) (cs.map (dieH · 0)) ⟨fun k hk => ⟨cs[k], 0, by rw [List.getElem?_map, List.getElem?_eq_getElem hk]; rfl⟩, _, _, _, _, _, _, _, _, _, _, _, _, rfl⟩
  refine ⟨st, ?_⟩
  have s1 : evI con ((evC tab con TD 100) (n + 7)) TD (k4 (some (false, .fl (ns.map .int))) none none none none none none none none none none none none none) (.seq (.call 41 (.cons (.var 0) (.cons (.int 5) .nil)))) [] = .ok (hnds 0 cs.length) (cs.map (dieH · 0)) := by
    unfold k4
    have e1 : (evC tab con TD 100) (n + 7) 41 [.fl (ns.map .int), .int 5] [] = .ok (.lst (hnds 0 cs.length)) (cs.map (dieH · 0)) := e1
    simp_arith [e1]
  rw [evSS_cons, evS_for, s1, R.bindS_ok, l1, RS.bind_nx, evSS_cons, evS_ret, evE_bl]
  rfl
end
end Ev.Mr
namespace Ev.K04
open PySem L2 Ev
def stm (i : Nat) : Stmt := PySem.Challenge.pw_windowboxes_k04_whole_dim_ways.main.body.getD i (.Pass ⟨0, 0, 0, 0⟩)
def tab : Nat → Option FD := fun f => match f with
  | 1 => some f_is_word
  | 2 => some f_is_one_of
  | 3 => some f_rise
  | 4 => some f_are_tuples
  | 5 => some f_outers
  | 6 => some f_over
  | 7 => some f_are_boxes
  | 8 => some f_is_world
  | 9 => some f_need_world
  | 10 => some f_box_names
  | 11 => some f_watcher_names
  | 12 => some f_need_box
  | 13 => some f_need_watcher
  | 14 => some f_row_of
  | 15 => some f_place_of
  | 16 => some f_within
  | 18 => some f_lets_sight
  | 19 => some f_are_next
  | 26 => some f_seen_from
  | 27 => some f_seen_by_one
  | 28 => some f_seen
  | 60 => some f_need_both
  | 61 => some f_way
  | 62 => some f_path_between
  | 64 => some f_dim
  | 20 => some f_is_open_deed
  | 71 => some f_need_deed
  | 21 => some f_fits
  | 22 => some f_lids_in_way
  | 23 => some f_is_free
  | 72 => some f_turned
  | 73 => some f_led_on
  | 74 => some f_done
  | 38 => some f_law_cell
  | 39 => some f_law_drawn
  | 40 => some f_law_roll_v2
  | 41 => some f_law_rounds
  | 44 => some f_law_any_world_v2
  | 55 => some f_law_names
  | 66 => some f_law_who
  | 56 => some f_law_outer
  | 57 => some f_law_chain_up
  | 58 => some f_law_sights
  | 76 => some f_law_way
  | 77 => some f_law_k04
  | _ => none
def sx : Nat → Nat := fun f => match f with
  | 1 => 11
  | 2 => 12
  | 3 => 13
  | 4 => 14
  | 5 => 15
  | 6 => 16
  | 7 => 17
  | 8 => 18
  | 9 => 19
  | 10 => 20
  | 11 => 21
  | 12 => 22
  | 13 => 23
  | 14 => 24
  | 15 => 25
  | 16 => 26
  | 18 => 27
  | 19 => 28
  | 26 => 30
  | 27 => 31
  | 28 => 32
  | 60 => 33
  | 61 => 34
  | 62 => 35
  | 64 => 36
  | 20 => 39
  | 71 => 40
  | 21 => 41
  | 22 => 42
  | 23 => 43
  | 72 => 44
  | 73 => 45
  | 74 => 46
  | 38 => 48
  | 39 => 49
  | 40 => 50
  | 41 => 51
  | 44 => 52
  | 55 => 53
  | 66 => 54
  | 56 => 55
  | 57 => 56
  | 58 => 57
  | 76 => 58
  | 77 => 59
  | _ => 0
def lm : Nat → Bool := fun f => match f with
  | 44 => true
  | _ => false
def con : Nat → Option D := fun k => match k with
  | 0 => some (.str [97, 98, 99, 100, 101, 102, 103, 104, 105, 106, 107, 108, 109, 110, 111, 112, 113, 114, 115, 116, 117, 118, 119, 120, 121, 122])
  | 2 => some (.tup [(.str [110, 111, 110, 101]), (.str [105, 110]), (.str [111, 117, 116]), (.str [98, 111, 116, 104])])
  | 1 => some (.tup [(.str [111, 112, 101, 110]), (.str [115, 104, 117, 116])])
  | _ => none
def cks : CKS := {
  has := fun f => (tab f).isSome
  fn := fun f => match tab f with
    | some d => d.name
    | none => ""
  cn := fun f => match f with
    | 0 => "SMALL"
    | 2 => "WINDOWS"
    | 1 => "LIDS"
    | _ => ""
  xn := fun f => match f with
    | 0 => "BoxError"
    | 1 => "BadWorld"
    | 2 => "BadName"
    | 3 => "BadDeed"
    | 8 => "Shut"
    | 9 => "Nothing"
    | _ => ""
  lam := false
  tld := fun f => false
  tn := fun _ => "_law_told"
  dn := fun f => match f with
    | 3 => "SIZES"
    | _ => ""
  kd := fun f h m => match f with
    | 3 => decide (h = hits3) && decide (m = miss3)
    | _ => false
  xhas := fun f => match f with
    | 0 => true
    | 1 => true
    | 2 => true
    | 3 => true
    | 8 => true
    | 9 => true
    | _ => false }
theorem c_is_word : chkSS (cks.at false) f_is_word.N (defScope (stm 11)) f_is_word.body (defBody (stm 11)) = true := by decide +kernel
theorem c_is_one_of : chkSS (cks.at false) f_is_one_of.N (defScope (stm 12)) f_is_one_of.body (defBody (stm 12)) = true := by decide +kernel
theorem c_rise : chkSS (cks.at false) f_rise.N (defScope (stm 13)) f_rise.body (defBody (stm 13)) = true := by decide +kernel
theorem c_are_tuples : chkSS (cks.at false) f_are_tuples.N (defScope (stm 14)) f_are_tuples.body (defBody (stm 14)) = true := by decide +kernel
theorem c_outers : chkSS (cks.at false) f_outers.N (defScope (stm 15)) f_outers.body (defBody (stm 15)) = true := by decide +kernel
theorem c_over : chkSS (cks.at false) f_over.N (defScope (stm 16)) f_over.body (defBody (stm 16)) = true := by decide +kernel
theorem c_are_boxes : chkSS (cks.at false) f_are_boxes.N (defScope (stm 17)) f_are_boxes.body (defBody (stm 17)) = true := by decide +kernel
theorem c_is_world : chkSS (cks.at false) f_is_world.N (defScope (stm 18)) f_is_world.body (defBody (stm 18)) = true := by decide +kernel
theorem c_need_world : chkSS (cks.at false) f_need_world.N (defScope (stm 19)) f_need_world.body (defBody (stm 19)) = true := by decide +kernel
theorem c_box_names : chkSS (cks.at false) f_box_names.N (defScope (stm 20)) f_box_names.body (defBody (stm 20)) = true := by decide +kernel
theorem c_watcher_names : chkSS (cks.at false) f_watcher_names.N (defScope (stm 21)) f_watcher_names.body (defBody (stm 21)) = true := by decide +kernel
theorem c_need_box : chkSS (cks.at false) f_need_box.N (defScope (stm 22)) f_need_box.body (defBody (stm 22)) = true := by decide +kernel
theorem c_need_watcher : chkSS (cks.at false) f_need_watcher.N (defScope (stm 23)) f_need_watcher.body (defBody (stm 23)) = true := by decide +kernel
theorem c_row_of : chkSS (cks.at false) f_row_of.N (defScope (stm 24)) f_row_of.body (defBody (stm 24)) = true := by decide +kernel
theorem c_place_of : chkSS (cks.at false) f_place_of.N (defScope (stm 25)) f_place_of.body (defBody (stm 25)) = true := by decide +kernel
theorem c_within : chkSS (cks.at false) f_within.N (defScope (stm 26)) f_within.body (defBody (stm 26)) = true := by decide +kernel
theorem c_lets_sight : chkSS (cks.at false) f_lets_sight.N (defScope (stm 27)) f_lets_sight.body (defBody (stm 27)) = true := by decide +kernel
theorem c_are_next : chkSS (cks.at false) f_are_next.N (defScope (stm 28)) f_are_next.body (defBody (stm 28)) = true := by decide +kernel
theorem c_seen_from : chkSS (cks.at false) f_seen_from.N (defScope (stm 30)) f_seen_from.body (defBody (stm 30)) = true := by decide +kernel
theorem c_seen_by_one : chkSS (cks.at false) f_seen_by_one.N (defScope (stm 31)) f_seen_by_one.body (defBody (stm 31)) = true := by decide +kernel
theorem c_seen : chkSS (cks.at false) f_seen.N (defScope (stm 32)) f_seen.body (defBody (stm 32)) = true := by decide +kernel
theorem c_need_both : chkSS (cks.at false) f_need_both.N (defScope (stm 33)) f_need_both.body (defBody (stm 33)) = true := by decide +kernel
theorem c_way : chkSS (cks.at false) f_way.N (defScope (stm 34)) f_way.body (defBody (stm 34)) = true := by decide +kernel
theorem c_path_between : chkSS (cks.at false) f_path_between.N (defScope (stm 35)) f_path_between.body (defBody (stm 35)) = true := by decide +kernel
theorem c_dim : chkSS (cks.at false) f_dim.N (defScope (stm 36)) f_dim.body (defBody (stm 36)) = true := by decide +kernel
theorem c_is_open_deed : chkSS (cks.at false) f_is_open_deed.N (defScope (stm 39)) f_is_open_deed.body (defBody (stm 39)) = true := by decide +kernel
theorem c_need_deed : chkSS (cks.at false) f_need_deed.N (defScope (stm 40)) f_need_deed.body (defBody (stm 40)) = true := by decide +kernel
theorem c_fits : chkSS (cks.at false) f_fits.N (defScope (stm 41)) f_fits.body (defBody (stm 41)) = true := by decide +kernel
theorem c_lids_in_way : chkSS (cks.at false) f_lids_in_way.N (defScope (stm 42)) f_lids_in_way.body (defBody (stm 42)) = true := by decide +kernel
theorem c_is_free : chkSS (cks.at false) f_is_free.N (defScope (stm 43)) f_is_free.body (defBody (stm 43)) = true := by decide +kernel
theorem c_turned : chkSS (cks.at false) f_turned.N (defScope (stm 44)) f_turned.body (defBody (stm 44)) = true := by decide +kernel
theorem c_led_on : chkSS (cks.at false) f_led_on.N (defScope (stm 45)) f_led_on.body (defBody (stm 45)) = true := by decide +kernel
theorem c_done : chkSS (cks.at false) f_done.N (defScope (stm 46)) f_done.body (defBody (stm 46)) = true := by decide +kernel
theorem c_law_cell : chkSS (cks.at false) f_law_cell.N (defScope (stm 48)) f_law_cell.body (defBody (stm 48)) = true := by decide +kernel
theorem c_law_drawn : chkSS (cks.at false) f_law_drawn.N (defScope (stm 49)) f_law_drawn.body (defBody (stm 49)) = true := by decide +kernel
theorem c_law_roll_v2 : chkSS (cks.at false) f_law_roll_v2.N (defScope (stm 50)) f_law_roll_v2.body (defBody (stm 50)) = true := by decide +kernel
theorem c_law_rounds : chkSS (cks.at false) f_law_rounds.N (defScope (stm 51)) f_law_rounds.body (defBody (stm 51)) = true := by decide +kernel
theorem c_law_any_world_v2 : chkSS (cks.at true) f_law_any_world_v2.N (defScope (stm 52)) f_law_any_world_v2.body (defBody (stm 52)) = true := by decide +kernel
theorem c_law_names : chkSS (cks.at false) f_law_names.N (defScope (stm 53)) f_law_names.body (defBody (stm 53)) = true := by decide +kernel
theorem c_law_who : chkSS (cks.at false) f_law_who.N (defScope (stm 54)) f_law_who.body (defBody (stm 54)) = true := by decide +kernel
theorem c_law_outer : chkSS (cks.at false) f_law_outer.N (defScope (stm 55)) f_law_outer.body (defBody (stm 55)) = true := by decide +kernel
theorem c_law_chain_up : chkSS (cks.at false) f_law_chain_up.N (defScope (stm 56)) f_law_chain_up.body (defBody (stm 56)) = true := by decide +kernel
theorem c_law_sights : chkSS (cks.at false) f_law_sights.N (defScope (stm 57)) f_law_sights.body (defBody (stm 57)) = true := by decide +kernel
theorem c_law_way : chkSS (cks.at false) f_law_way.N (defScope (stm 58)) f_law_way.body (defBody (stm 58)) = true := by decide +kernel
theorem c_law_k04 : chkSS (cks.at false) f_law_k04.N (defScope (stm 59)) f_law_k04.body (defBody (stm 59)) = true := by decide +kernel
end Ev.K04
namespace Ev.K04
open PySem PySem.Spec PyProof.Rows L2 Ev
def loose : List Str := (["BoxError", "BadWorld", "BadName", "BadDeed", "Shut", "Nothing", "SMALL", "LIDS", "WINDOWS", "is_word", "is_one_of", "rise", "are_tuples", "outers", "over", "are_boxes", "is_world", "need_world", "box_names", "watcher_names", "need_box", "need_watcher", "row_of", "place_of", "within"] : List Str) ++ (["lets_sight", "are_next", "seen_from", "seen_by_one", "seen", "need_both", "way", "path_between", "dim", "SIZES", "is_open_deed", "need_deed", "fits", "lids_in_way", "is_free", "turned", "led_on", "done", "_law_cell", "_law_drawn", "_law_roll", "_law_rounds", "_law_any_world", "_law_names", "_law_who"] : List Str) ++ (["_law_outer", "_law_chain_up", "_law_sights", "_law_way"] : List Str)
def fn0 : List He.DefD := [defD f_is_word (stm 11), defD f_is_one_of (stm 12), defD f_rise (stm 13), defD f_are_tuples (stm 14), defD f_outers (stm 15), defD f_over (stm 16), defD f_are_boxes (stm 17), defD f_is_world (stm 18), defD f_need_world (stm 19), defD f_box_names (stm 20), defD f_watcher_names (stm 21), defD f_need_box (stm 22), defD f_need_watcher (stm 23), defD f_row_of (stm 24), defD f_place_of (stm 25), defD f_within (stm 26), defD f_lets_sight (stm 27), defD f_are_next (stm 28), defD f_seen_from (stm 30), defD f_seen_by_one (stm 31), defD f_seen (stm 32), defD f_need_both (stm 33), defD f_way (stm 34), defD f_path_between (stm 35), defD f_dim (stm 36)]
def fn1 : List He.DefD := [defD f_is_open_deed (stm 39), defD f_need_deed (stm 40), defD f_fits (stm 41), defD f_lids_in_way (stm 42), defD f_is_free (stm 43), defD f_turned (stm 44), defD f_led_on (stm 45), defD f_done (stm 46), defD f_law_cell (stm 48), defD f_law_drawn (stm 49), defD f_law_roll_v2 (stm 50), defD f_law_rounds (stm 51), defD f_law_any_world_v2 (stm 52), defD f_law_names (stm 53), defD f_law_who (stm 54), defD f_law_outer (stm 55), defD f_law_chain_up (stm 56), defD f_law_sights (stm 57), defD f_law_way (stm 58), defD f_law_k04 (stm 59)]
def fnh : List He.DefD := []
def fn : List He.DefD := fnh ++ fn0 ++ fn1
def nm0 : List Str := ["is_word", "is_one_of", "rise", "are_tuples", "outers", "over", "are_boxes", "is_world", "need_world", "box_names", "watcher_names", "need_box", "need_watcher", "row_of", "place_of", "within", "lets_sight", "are_next", "seen_from", "seen_by_one", "seen", "need_both", "way", "path_between", "dim"]
def nm1 : List Str := ["is_open_deed", "need_deed", "fits", "lids_in_way", "is_free", "turned", "led_on", "done", "_law_cell", "_law_drawn", "_law_roll", "_law_rounds", "_law_any_world", "_law_names", "_law_who", "_law_outer", "_law_chain_up", "_law_sights", "_law_way", "law"]
def nms : List Str := nm0 ++ nm1
def cln : List Str := ["BoxError", "BadWorld", "BadName", "BadDeed", "Shut", "Nothing"]
def dnm : List Str := ["SIZES"]
def fa : List He.Fa := frees.map .free ++ nms.map .glo ++ cln.map .glo ++ cln.map .exc ++ ((cln.drop 1).map fun c => .exm c "BoxError" true) ++ dnm.map .glo
def ts : List He.Tab := [(fun K => He.ga K "SIZES", ["open", "shut", "glaze", "carry", "go"])]
def tf : List Str := ["_law_any_world"]
def conL : List (Str × D) := [("SMALL", (.str [97, 98, 99, 100, 101, 102, 103, 104, 105, 106, 107, 108, 109, 110, 111, 112, 113, 114, 115, 116, 117, 118, 119, 120, 121, 122])), ("WINDOWS", (.tup [(.str [110, 111, 110, 101]), (.str [105, 110]), (.str [111, 117, 116]), (.str [98, 111, 116, 104])])), ("LIDS", (.tup [(.str [111, 112, 101, 110]), (.str [115, 104, 117, 116])]))]
def ex (K : PySem.W.Frag) : Bool := conL.all (fun p => conB K p.1 p.2) && (true && (tfB K tf && kdB K "SIZES" hits3 miss3))
abbrev R : PySem.W.OpenRow := PySem.W.OpenLaw.row PySem.Challenge.rw_windowboxes_k04_whole_dim_ways
abbrev hk : PySem.W.Hook := He.hookX 4 fa fn ts (tf.map fun x => (x, none)) ex
def ob (s : PySem.W.SharedT) : He.AlX := He.obsX 4 fa fn ts (tf.map fun x => (x, none)) ex (HandSHeadRun.getT s)
theorem ob_eq (s : PySem.W.SharedT) : ob s = hk.obs s.abs := He.obsX_eq (HandSHeadRun.getT_eq s)
theorem run (w : World) : HandSHeadRun.RunEq R (PySem.W.view R.prog [59]) hk ob 6000 loose w := by
  revert w
  refine PySem.W.byRow2 "special-get-raises" (fun w os => ?_) fun w os => ?_
  · kernel_rfl
  · kernel_rfl
theorem k_is_word : FnC (cks.at false) f_is_word (stm 11) := ⟨⟨rfl, rfl, rfl, by decide +kernel, rfl, by decide +kernel, by decide +kernel⟩, c_is_word, fun _ _ _ _ _ _ us hl => match us, hl with | [_], _ => rfl⟩
theorem k_is_one_of : FnC (cks.at false) f_is_one_of (stm 12) := ⟨⟨rfl, rfl, rfl, by decide +kernel, rfl, by decide +kernel, by decide +kernel⟩, c_is_one_of, fun _ _ _ _ _ _ us hl => match us, hl with | [_, _], _ => rfl⟩
theorem k_rise : FnC (cks.at false) f_rise (stm 13) := ⟨⟨rfl, rfl, rfl, by decide +kernel, rfl, by decide +kernel, by decide +kernel⟩, c_rise, fun _ _ _ _ _ _ us hl => match us, hl with | [_], _ => rfl⟩
theorem k_are_tuples : FnC (cks.at false) f_are_tuples (stm 14) := ⟨⟨rfl, rfl, rfl, by decide +kernel, rfl, by decide +kernel, by decide +kernel⟩, c_are_tuples, fun _ _ _ _ _ _ us hl => match us, hl with | [_, _, _], _ => rfl⟩
theorem k_outers : FnC (cks.at false) f_outers (stm 15) := ⟨⟨rfl, rfl, rfl, by decide +kernel, rfl, by decide +kernel, by decide +kernel⟩, c_outers, fun _ _ _ _ _ _ us hl => match us, hl with | [_], _ => rfl⟩
theorem k_over : FnC (cks.at false) f_over (stm 16) := ⟨⟨rfl, rfl, rfl, by decide +kernel, rfl, by decide +kernel, by decide +kernel⟩, c_over, fun _ _ _ _ _ _ us hl => match us, hl with | [_, _], _ => rfl⟩
theorem k_are_boxes : FnC (cks.at false) f_are_boxes (stm 17) := ⟨⟨rfl, rfl, rfl, by decide +kernel, rfl, by decide +kernel, by decide +kernel⟩, c_are_boxes, fun _ _ _ _ _ _ us hl => match us, hl with | [_], _ => rfl⟩
theorem k_is_world : FnC (cks.at false) f_is_world (stm 18) := ⟨⟨rfl, rfl, rfl, by decide +kernel, rfl, by decide +kernel, by decide +kernel⟩, c_is_world, fun _ _ _ _ _ _ us hl => match us, hl with | [_], _ => rfl⟩
theorem k_need_world : FnC (cks.at false) f_need_world (stm 19) := ⟨⟨rfl, rfl, rfl, by decide +kernel, rfl, by decide +kernel, by decide +kernel⟩, c_need_world, fun _ _ _ _ _ _ us hl => match us, hl with | [_], _ => rfl⟩
theorem k_box_names : FnC (cks.at false) f_box_names (stm 20) := ⟨⟨rfl, rfl, rfl, by decide +kernel, rfl, by decide +kernel, by decide +kernel⟩, c_box_names, fun _ _ _ _ _ _ us hl => match us, hl with | [_], _ => rfl⟩
theorem k_watcher_names : FnC (cks.at false) f_watcher_names (stm 21) := ⟨⟨rfl, rfl, rfl, by decide +kernel, rfl, by decide +kernel, by decide +kernel⟩, c_watcher_names, fun _ _ _ _ _ _ us hl => match us, hl with | [_], _ => rfl⟩
theorem k_need_box : FnC (cks.at false) f_need_box (stm 22) := ⟨⟨rfl, rfl, rfl, by decide +kernel, rfl, by decide +kernel, by decide +kernel⟩, c_need_box, fun _ _ _ _ _ _ us hl => match us, hl with | [_, _], _ => rfl⟩
theorem k_need_watcher : FnC (cks.at false) f_need_watcher (stm 23) := ⟨⟨rfl, rfl, rfl, by decide +kernel, rfl, by decide +kernel, by decide +kernel⟩, c_need_watcher, fun _ _ _ _ _ _ us hl => match us, hl with | [_, _], _ => rfl⟩
theorem k_row_of : FnC (cks.at false) f_row_of (stm 24) := ⟨⟨rfl, rfl, rfl, by decide +kernel, rfl, by decide +kernel, by decide +kernel⟩, c_row_of, fun _ _ _ _ _ _ us hl => match us, hl with | [_, _], _ => rfl⟩
theorem k_place_of : FnC (cks.at false) f_place_of (stm 25) := ⟨⟨rfl, rfl, rfl, by decide +kernel, rfl, by decide +kernel, by decide +kernel⟩, c_place_of, fun _ _ _ _ _ _ us hl => match us, hl with | [_, _], _ => rfl⟩
theorem k_within : FnC (cks.at false) f_within (stm 26) := ⟨⟨rfl, rfl, rfl, by decide +kernel, rfl, by decide +kernel, by decide +kernel⟩, c_within, fun _ _ _ _ _ _ us hl => match us, hl with | [_, _], _ => rfl⟩
theorem k_lets_sight : FnC (cks.at false) f_lets_sight (stm 27) := ⟨⟨rfl, rfl, rfl, by decide +kernel, rfl, by decide +kernel, by decide +kernel⟩, c_lets_sight, fun _ _ _ _ _ _ us hl => match us, hl with | [_, _, _], _ => rfl⟩
theorem k_are_next : FnC (cks.at false) f_are_next (stm 28) := ⟨⟨rfl, rfl, rfl, by decide +kernel, rfl, by decide +kernel, by decide +kernel⟩, c_are_next, fun _ _ _ _ _ _ us hl => match us, hl with | [_, _, _], _ => rfl⟩
theorem k_seen_from : FnC (cks.at false) f_seen_from (stm 30) := ⟨⟨rfl, rfl, rfl, by decide +kernel, rfl, by decide +kernel, by decide +kernel⟩, c_seen_from, fun _ _ _ _ _ _ us hl => match us, hl with | [_, _], _ => rfl⟩
theorem k_seen_by_one : FnC (cks.at false) f_seen_by_one (stm 31) := ⟨⟨rfl, rfl, rfl, by decide +kernel, rfl, by decide +kernel, by decide +kernel⟩, c_seen_by_one, fun _ _ _ _ _ _ us hl => match us, hl with | [_, _], _ => rfl⟩
theorem k_seen : FnC (cks.at false) f_seen (stm 32) := ⟨⟨rfl, rfl, rfl, by decide +kernel, rfl, by decide +kernel, by decide +kernel⟩, c_seen, fun _ _ _ _ _ _ us hl => match us, hl with | [_, _], _ => rfl⟩
theorem k_need_both : FnC (cks.at false) f_need_both (stm 33) := ⟨⟨rfl, rfl, rfl, by decide +kernel, rfl, by decide +kernel, by decide +kernel⟩, c_need_both, fun _ _ _ _ _ _ us hl => match us, hl with | [_, _, _], _ => rfl⟩
theorem k_way : FnC (cks.at false) f_way (stm 34) := ⟨⟨rfl, rfl, rfl, by decide +kernel, rfl, by decide +kernel, by decide +kernel⟩, c_way, fun _ _ _ _ _ _ us hl => match us, hl with | [_, _, _], _ => rfl⟩
theorem k_path_between : FnC (cks.at false) f_path_between (stm 35) := ⟨⟨rfl, rfl, rfl, by decide +kernel, rfl, by decide +kernel, by decide +kernel⟩, c_path_between, fun _ _ _ _ _ _ us hl => match us, hl with | [_, _, _], _ => rfl⟩
theorem k_dim : FnC (cks.at false) f_dim (stm 36) := ⟨⟨rfl, rfl, rfl, by decide +kernel, rfl, by decide +kernel, by decide +kernel⟩, c_dim, fun _ _ _ _ _ _ us hl => match us, hl with | [_, _, _], _ => rfl⟩
theorem k_is_open_deed : FnC (cks.at false) f_is_open_deed (stm 39) := ⟨⟨rfl, rfl, rfl, by decide +kernel, rfl, by decide +kernel, by decide +kernel⟩, c_is_open_deed, fun _ _ _ _ _ _ us hl => match us, hl with | [_, _], _ => rfl⟩
theorem k_need_deed : FnC (cks.at false) f_need_deed (stm 40) := ⟨⟨rfl, rfl, rfl, by decide +kernel, rfl, by decide +kernel, by decide +kernel⟩, c_need_deed, fun _ _ _ _ _ _ us hl => match us, hl with | [_, _], _ => rfl⟩
theorem k_fits : FnC (cks.at false) f_fits (stm 41) := ⟨⟨rfl, rfl, rfl, by decide +kernel, rfl, by decide +kernel, by decide +kernel⟩, c_fits, fun _ _ _ _ _ _ us hl => match us, hl with | [_, _], _ => rfl⟩
theorem k_lids_in_way : FnC (cks.at false) f_lids_in_way (stm 42) := ⟨⟨rfl, rfl, rfl, by decide +kernel, rfl, by decide +kernel, by decide +kernel⟩, c_lids_in_way, fun _ _ _ _ _ _ us hl => match us, hl with | [_, _], _ => rfl⟩
theorem k_is_free : FnC (cks.at false) f_is_free (stm 43) := ⟨⟨rfl, rfl, rfl, by decide +kernel, rfl, by decide +kernel, by decide +kernel⟩, c_is_free, fun _ _ _ _ _ _ us hl => match us, hl with | [_, _], _ => rfl⟩
theorem k_turned : FnC (cks.at false) f_turned (stm 44) := ⟨⟨rfl, rfl, rfl, by decide +kernel, rfl, by decide +kernel, by decide +kernel⟩, c_turned, fun _ _ _ _ _ _ us hl => match us, hl with | [_, _], _ => rfl⟩
theorem k_led_on : FnC (cks.at false) f_led_on (stm 45) := ⟨⟨rfl, rfl, rfl, by decide +kernel, rfl, by decide +kernel, by decide +kernel⟩, c_led_on, fun _ _ _ _ _ _ us hl => match us, hl with | [_, _], _ => rfl⟩
theorem k_done : FnC (cks.at false) f_done (stm 46) := ⟨⟨rfl, rfl, rfl, by decide +kernel, rfl, by decide +kernel, by decide +kernel⟩, c_done, fun _ _ _ _ _ _ us hl => match us, hl with | [_, _], _ => rfl⟩
theorem k_law_cell : FnC (cks.at false) f_law_cell (stm 48) := ⟨⟨rfl, rfl, rfl, by decide +kernel, rfl, by decide +kernel, by decide +kernel⟩, c_law_cell, fun _ _ _ _ _ _ us hl => match us, hl with | [_, _], _ => rfl⟩
theorem k_law_drawn : FnC (cks.at false) f_law_drawn (stm 49) := ⟨⟨rfl, rfl, rfl, by decide +kernel, rfl, by decide +kernel, by decide +kernel⟩, c_law_drawn, fun _ _ _ _ _ _ us hl => match us, hl with | [_, _], _ => rfl⟩
theorem k_law_roll_v2 : FnC (cks.at false) f_law_roll_v2 (stm 50) := ⟨⟨rfl, rfl, rfl, by decide +kernel, rfl, by decide +kernel, by decide +kernel⟩, c_law_roll_v2, fun _ _ _ _ _ _ us hl => match us, hl with | [_, _], _ => rfl⟩
theorem k_law_rounds : FnC (cks.at false) f_law_rounds (stm 51) := ⟨⟨rfl, rfl, rfl, by decide +kernel, rfl, by decide +kernel, by decide +kernel⟩, c_law_rounds, fun _ _ _ _ _ _ us hl => match us, hl with | [_, _], _ => rfl⟩
theorem k_law_any_world_v2 : FnC (cks.at true) f_law_any_world_v2 (stm 52) := ⟨⟨rfl, rfl, rfl, by decide +kernel, rfl, by decide +kernel, by decide +kernel⟩, c_law_any_world_v2, fun _ _ _ _ _ _ us hl => match us, hl with | [_, _], _ => rfl⟩
theorem k_law_names : FnC (cks.at false) f_law_names (stm 53) := ⟨⟨rfl, rfl, rfl, by decide +kernel, rfl, by decide +kernel, by decide +kernel⟩, c_law_names, fun _ _ _ _ _ _ us hl => match us, hl with | [_], _ => rfl⟩
theorem k_law_who : FnC (cks.at false) f_law_who (stm 54) := ⟨⟨rfl, rfl, rfl, by decide +kernel, rfl, by decide +kernel, by decide +kernel⟩, c_law_who, fun _ _ _ _ _ _ us hl => match us, hl with | [_], _ => rfl⟩
theorem k_law_outer : FnC (cks.at false) f_law_outer (stm 55) := ⟨⟨rfl, rfl, rfl, by decide +kernel, rfl, by decide +kernel, by decide +kernel⟩, c_law_outer, fun _ _ _ _ _ _ us hl => match us, hl with | [_], _ => rfl⟩
theorem k_law_chain_up : FnC (cks.at false) f_law_chain_up (stm 56) := ⟨⟨rfl, rfl, rfl, by decide +kernel, rfl, by decide +kernel, by decide +kernel⟩, c_law_chain_up, fun _ _ _ _ _ _ us hl => match us, hl with | [_, _], _ => rfl⟩
theorem k_law_sights : FnC (cks.at false) f_law_sights (stm 57) := ⟨⟨rfl, rfl, rfl, by decide +kernel, rfl, by decide +kernel, by decide +kernel⟩, c_law_sights, fun _ _ _ _ _ _ us hl => match us, hl with | [_], _ => rfl⟩
theorem k_law_way : FnC (cks.at false) f_law_way (stm 58) := ⟨⟨rfl, rfl, rfl, by decide +kernel, rfl, by decide +kernel, by decide +kernel⟩, c_law_way, fun _ _ _ _ _ _ us hl => match us, hl with | [_, _, _], _ => rfl⟩
theorem k_law_k04 : FnC (cks.at false) f_law_k04 (stm 59) := ⟨⟨rfl, rfl, rfl, by decide +kernel, rfl, by decide +kernel, by decide +kernel⟩, c_law_k04, fun _ _ _ _ _ _ us hl => match us, hl with | [_], _ => rfl⟩
def sts (f : Nat) : Stmt := stm (sx f)
theorem fn_all (f : Nat) (d : FD) (h : tab f = some d) : FnC (cks.at (lm f)) d (sts f) ∧ defD d (sts f) ∈ fn ∧ He.Fa.glo d.name ∈ fa := by
  unfold tab at h
  split at h <;> first | (cases h; done) | skip
  · cases h; exact ⟨k_is_word, mem_at 0, mem_at 19⟩
  · cases h; exact ⟨k_is_one_of, mem_at 1, mem_at 20⟩
  · cases h; exact ⟨k_rise, mem_at 2, mem_at 21⟩
  · cases h; exact ⟨k_are_tuples, mem_at 3, mem_at 22⟩
  · cases h; exact ⟨k_outers, mem_at 4, mem_at 23⟩
  · cases h; exact ⟨k_over, mem_at 5, mem_at 24⟩
  · cases h; exact ⟨k_are_boxes, mem_at 6, mem_at 25⟩
  · cases h; exact ⟨k_is_world, mem_at 7, mem_at 26⟩
  · cases h; exact ⟨k_need_world, mem_at 8, mem_at 27⟩
  · cases h; exact ⟨k_box_names, mem_at 9, mem_at 28⟩
  · cases h; exact ⟨k_watcher_names, mem_at 10, mem_at 29⟩
  · cases h; exact ⟨k_need_box, mem_at 11, mem_at 30⟩
  · cases h; exact ⟨k_need_watcher, mem_at 12, mem_at 31⟩
  · cases h; exact ⟨k_row_of, mem_at 13, mem_at 32⟩
  · cases h; exact ⟨k_place_of, mem_at 14, mem_at 33⟩
  · cases h; exact ⟨k_within, mem_at 15, mem_at 34⟩
  · cases h; exact ⟨k_lets_sight, mem_at 16, mem_at 35⟩
  · cases h; exact ⟨k_are_next, mem_at 17, mem_at 36⟩
  · cases h; exact ⟨k_seen_from, mem_at 18, mem_at 37⟩
  · cases h; exact ⟨k_seen_by_one, mem_at 19, mem_at 38⟩
  · cases h; exact ⟨k_seen, mem_at 20, mem_at 39⟩
  · cases h; exact ⟨k_need_both, mem_at 21, mem_at 40⟩
  · cases h; exact ⟨k_way, mem_at 22, mem_at 41⟩
  · cases h; exact ⟨k_path_between, mem_at 23, mem_at 42⟩
  · cases h; exact ⟨k_dim, mem_at 24, mem_at 43⟩
  · cases h; exact ⟨k_is_open_deed, mem_at 25, mem_at 44⟩
  · cases h; exact ⟨k_need_deed, mem_at 26, mem_at 45⟩
  · cases h; exact ⟨k_fits, mem_at 27, mem_at 46⟩
  · cases h; exact ⟨k_lids_in_way, mem_at 28, mem_at 47⟩
  · cases h; exact ⟨k_is_free, mem_at 29, mem_at 48⟩
  · cases h; exact ⟨k_turned, mem_at 30, mem_at 49⟩
  · cases h; exact ⟨k_led_on, mem_at 31, mem_at 50⟩
  · cases h; exact ⟨k_done, mem_at 32, mem_at 51⟩
  · cases h; exact ⟨k_law_cell, mem_at 33, mem_at 52⟩
  · cases h; exact ⟨k_law_drawn, mem_at 34, mem_at 53⟩
  · cases h; exact ⟨k_law_roll_v2, mem_at 35, mem_at 54⟩
  · cases h; exact ⟨k_law_rounds, mem_at 36, mem_at 55⟩
  · cases h; exact ⟨k_law_any_world_v2, mem_at 37, mem_at 56⟩
  · cases h; exact ⟨k_law_names, mem_at 38, mem_at 57⟩
  · cases h; exact ⟨k_law_who, mem_at 39, mem_at 58⟩
  · cases h; exact ⟨k_law_outer, mem_at 40, mem_at 59⟩
  · cases h; exact ⟨k_law_chain_up, mem_at 41, mem_at 60⟩
  · cases h; exact ⟨k_law_sights, mem_at 42, mem_at 61⟩
  · cases h; exact ⟨k_law_way, mem_at 43, mem_at 62⟩
  · cases h; exact ⟨k_law_k04, mem_at 44, mem_at 63⟩
theorem has_all (f : Nat) (h : cks.has f = true) : ∃ d, tab f = some d ∧ cks.fn f = d.name := by
  have h : (tab f).isSome = true := h
  cases q : tab f with
  | none => rw [q] at h; cases h
  | some d => exact ⟨d, rfl, by show (match tab f with | some d => d.name | none => "") = _; rw [q]⟩
theorem free_all (x : Str) (h : x ∈ frees) : He.Fa.free x ∈ fa := by
  unfold fa
  simp only [List.mem_append, List.mem_map]
  exact .inl (.inl (.inl (.inl (.inl ⟨x, h, rfl⟩))))
theorem cls_mem (c : Nat) (h : cks.xhas c = true) : He.Fa.glo (cks.xn c) ∈ fa ∧ He.Fa.exc (cks.xn c) ∈ fa := by
  unfold cks at h
  dsimp only at h
  split at h <;> first | (cases h; done) | skip
  · exact ⟨mem_at 64, mem_at 70⟩
  · exact ⟨mem_at 65, mem_at 71⟩
  · exact ⟨mem_at 66, mem_at 72⟩
  · exact ⟨mem_at 67, mem_at 73⟩
  · exact ⟨mem_at 68, mem_at 74⟩
  · exact ⟨mem_at 69, mem_at 75⟩
theorem con_all (K : PySem.W.Frag) (hc : conL.all (fun p => conB K p.1 p.2) = true) (k : Nat) (d : D) (h : con k = some d) : conB K (cks.cn k) d = true := by
  unfold con at h
  split at h <;> first | (cases h; done) | skip
  · cases h; exact List.all_eq_true.mp hc ("SMALL", _) (mem_at 0)
  · cases h; exact List.all_eq_true.mp hc ("WINDOWS", _) (mem_at 1)
  · cases h; exact List.all_eq_true.mp hc ("LIDS", _) (mem_at 2)
theorem tf_all (f : Nat) (d : FD) (h : tab f = some d) (hl : lm f = true) : d.name ∈ tf := by
  unfold lm at hl
  split at hl <;> first | (cases hl; done) | skip
  · cases h; exact mem_at 0
theorem kd_all {w : World} {K : PySem.W.Frag} {mg : Str → Option Value} {h : Heap} (X0 : K.In h) (G : h.Ns mainGlobals mg) (c : He.SaysX fa fn ts (tf.map fun x => (x, none)) ex w h K) (j : Nat) (hits : List (List Nat × Int)) (miss : List (List Nat)) (hk : cks.kd j hits miss = true) : KdAt K w mg (cks.dn j) hits miss := by
  have hex := c.more
  unfold ex at hex
  simp only [Bool.and_eq_true] at hex
  obtain ⟨_, _, ⟨_, q0⟩⟩ := hex
  unfold cks at hk
  dsimp only at hk
  split at hk <;> first | (cases hk; done) | skip
  · simp only [Bool.and_eq_true, decide_eq_true_eq] at hk
    obtain ⟨rfl, rfl⟩ := hk
    exact kdAt_of (He.glo_ok X0 G (c.t.d.facts (mem_at 81))) (c.t.tab 0) q0
end Ev.K04
open PySem PySem.W PySem.Calls PyProof.Rows
theorem k04_holds (plain : ∀ ns : List Int, ns.length ≤ 1000 → ∃ st', Ev.evC Ev.K04.tab Ev.K04.con (fun _ => Ev.tdK) 100 12 77 [.fl (ns.map .int)] [] = .ok (.bl true) st') : PySem.Challenge.rw_windowboxes_k04_whole_dim_ways.Holds := by
  w_on; o_law
  refine HandSHeadRun.head_any (r := OpenLaw.row PySem.Challenge.rw_windowboxes_k04_whole_dim_ways) (q := view (OpenLaw.row PySem.Challenge.rw_windowboxes_k04_whole_dim_ways).prog [59]) (H := Ev.K04.hk) (ob := Ev.K04.ob) (M := 6000) (loose := Ev.K04.loose) (d := HandSHeadRun.topDef (OpenLaw.row PySem.Challenge.rw_windowboxes_k04_whole_dim_ways).prog 59) (kwd := []) Ev.K04.ob_eq
    (by kernel_rfl) (fun s => by kernel_rfl) Ev.K04.run (by kernel_rfl) (by kernel_rfl) (by kernel_rfl) (by rfl) (by first | assumption | decide +kernel) (by decide +kernel) ⟨rfl, rfl, rfl, rfl, rfl, by decide +kernel⟩ ?hw ?hc
  case hw => w_witness2
  case hc =>
    refine LamX.walk_ofTsE (l := PySem.Challenge.rw_windowboxes_k04_whole_dim_ways) (n := 63) (k := 3 * 12) (x := "_law_script") (CX := fun w => L2N.CX (PySem.Challenge.rw_windowboxes_k04_whole_dim_ways).prog w) rfl (by decide) (by kernel_rfl) ⟨rfl, by decide, by decide⟩ ?F (fun w H s e s' z => by obtain ⟨_, _, _, _, _, _, _, _, _, _, _, _, z⟩ := z; exact z)
    intro w mg fa h Y G hmg0
    obtain ⟨K, KX, c⟩ := Y
    have hmg : mg ("law" : PySem.Str) = some (.ref fa) := by
      have e : (HandSHeadRun.topDef (OpenLaw.row PySem.Challenge.rw_windowboxes_k04_whole_dim_ways).prog 59).name = ("law" : PySem.Str) := by kernel_rfl
      rw [← e]
      exact hmg0
    have e := hmg.symm.trans (He.glo_ok KX G (c.t.d.facts (f := .glo "law") (Ev.mem_at 63)))
    cases e
    have hex := c.more
    unfold Ev.K04.ex at hex
    simp only [Bool.and_eq_true] at hex
    obtain ⟨hcon, hcl, ⟨htf, _⟩⟩ := hex
    exact ⟨K, KX, Ev.lawAt_of (d := Ev.f_law_k04) (f := 77) (sts := Ev.K04.sts) (lm := Ev.K04.lm) (con := Ev.K04.con) KX G c rfl rfl (Ev.K04.fn_all 77 _ rfl).2.1 (Ev.K04.fn_all 77 _ rfl).1
      (fun base KB GB hT => Ev.wld_of KX G c Ev.K04.fn_all Ev.K04.has_all Ev.K04.cls_mem Ev.K04.free_all (Ev.K04.con_all K hcon) (Ev.K04.kd_all KX G c) Ev.K04.tf_all htf hT (fun j hj => nomatch hj) 77 _ rfl) plain⟩
theorem k04_tab : Ev.Mr.TabK4 Ev.K04.tab Ev.K04.con := { h1 := ⟨_, rfl, rfl, rfl, rfl⟩, h2 := ⟨_, rfl, rfl, rfl, rfl⟩, h3 := ⟨_, rfl, rfl, rfl, rfl⟩, h4 := ⟨_, rfl, rfl, rfl, rfl⟩, h5 := ⟨_, rfl, rfl, rfl, rfl⟩, h6 := ⟨_, rfl, rfl, rfl, rfl⟩, h7 := ⟨_, rfl, rfl, rfl, rfl⟩, h8 := ⟨_, rfl, rfl, rfl, rfl⟩, h9 := ⟨_, rfl, rfl, rfl, rfl⟩, h10 := ⟨_, rfl, rfl, rfl, rfl⟩, h11 := ⟨_, rfl, rfl, rfl, rfl⟩, c0 := rfl, c1 := rfl, c2 := rfl, h12 := ⟨_, rfl, rfl, rfl, rfl⟩, h13 := ⟨_, rfl, rfl, rfl, rfl⟩, h14 := ⟨_, rfl, rfl, rfl, rfl⟩, h15 := ⟨_, rfl, rfl, rfl, rfl⟩, h18 := ⟨_, rfl, rfl, rfl, rfl⟩, h19 := ⟨_, rfl, rfl, rfl, rfl⟩, h26 := ⟨_, rfl, rfl, rfl, rfl⟩, h27 := ⟨_, rfl, rfl, rfl, rfl⟩, h28 := ⟨_, rfl, rfl, rfl, rfl⟩, h60 := ⟨_, rfl, rfl, rfl, rfl⟩, h61 := ⟨_, rfl, rfl, rfl, rfl⟩, h62 := ⟨_, rfl, rfl, rfl, rfl⟩, h64 := ⟨_, rfl, rfl, rfl, rfl⟩, h20 := ⟨_, rfl, rfl, rfl, rfl⟩, h21 := ⟨_, rfl, rfl, rfl, rfl⟩, h22 := ⟨_, rfl, rfl, rfl, rfl⟩, h23 := ⟨_, rfl, rfl, rfl, rfl⟩, h71 := ⟨_, rfl, rfl, rfl, rfl⟩, h72 := ⟨_, rfl, rfl, rfl, rfl⟩, h73 := ⟨_, rfl, rfl, rfl, rfl⟩, h74 := ⟨_, rfl, rfl, rfl, rfl⟩, h38 := ⟨_, rfl, rfl, rfl, rfl⟩, h39 := ⟨_, rfl, rfl, rfl, rfl⟩, h40 := ⟨_, rfl, rfl, rfl, rfl⟩, h41 := ⟨_, rfl, rfl, rfl, rfl⟩, h44 := ⟨_, rfl, rfl, rfl, rfl⟩, h55 := ⟨_, rfl, rfl, rfl, rfl⟩, h56 := ⟨_, rfl, rfl, rfl, rfl⟩, h57 := ⟨_, rfl, rfl, rfl, rfl⟩, h58 := ⟨_, rfl, rfl, rfl, rfl⟩, h66 := ⟨_, rfl, rfl, rfl, rfl⟩, h76 := ⟨_, rfl, rfl, rfl, rfl⟩ }
theorem PySem.Challenge.cw_windowboxes_k04_whole_dim_ways_holds : PySem.Challenge.rw_windowboxes_k04_whole_dim_ways.Holds := by
  exact k04_holds fun ns hn => Ev.Mr.k04_plain (n := 4) k04_tab ⟨_, rfl, rfl, rfl, rfl⟩ hn
