import PyProof.Rows.All
import Wide.All
import OpenK.AllK
import Wide.FinOn
import HandS.ForMost
import HandS.SortKw
import HandS.Deep
import HandS.Strs
import HandS.Conv
import HandS.Zip
import HandS.Rev
import HandS.RevRange
import HandS.Flow
import HandS.IsInst
import HandS.Wide
import HandS.TupAny
import HandS.TupMul
import HandS.Lambda
import HandS.EndTab
import HandS.FStr
import HandS.StrMore
import KE.SortData
import KE.SortKeyHeap
import HandS.Style
import PyProof.TupleOfSeq
import PyProof.Transfer
import KE.GoesMore
import KE.GoesEnum
import KE.KTupSum
import HandS.Defaults
import PyProof.Conv_int_bool
import KE.KxIndex
import KE.KDictSum
import HandS.ExcCtx
import HandS.ExcInit
import HandS.ExcInitHot
import HandS.ExcIs
import HandS.ExcField
import HandS.CallSlots
import HandS.HotCalls
import KE.KTryMore
import KE.KExcInit
import PyProof.SumAny
import HandS.NoneIn
import KE.KRevSl
import HandS.SetKeys
import HandS.Text
import PyProof.Rows.IntBool
import PyProof.CallStr
import HandS.Iter
import KE.DataMinKey
import PyProof.StrLawsIn
import PySem.Challenge.RW_countbundles_k34_firsts
set_option Elab.async false
set_option linter.all false
set_option maxRecDepth 100000
set_option maxHeartbeats 4000000
namespace Z
open PySem PySem.Spec PyProof.Rows L2

/-! ### plain data, the store of what may change, results -/
/-- lists and dicts -/
def MutH : Option HO → Prop
  | some (.lst _) => True
  | some (.dK _) => True
  | some (.dT _) => True
  | _ => False
/-- the defs of the text in which lambdas are made -/
def tabN : List Str := []
/-- .. how such a lambda is called -/
def lamQ (x : Str) : Str := (x ++ (".<locals>." : Str)) ++ ("<lambda>" : Str)
/-- plain data; ls: a list that nobody changes; loc n: the n-th thing of the store -/
inductive Dv where
  | non | bl (b : Bool) | int (i : Int) | str (s : Str) | tup (ds : List Dv) | ls (ds : List Dv) | loc (n : Nat) | xn (a d : Addr) (c : Nat) (fs : List Dv)
/-- the names of the fields of an error of the program, by its number -/
def fldN : Nat → List Str
  | 0 => ["word", "at"]
  | 1 => ["number"]
  | 2 => ["word"]
  | 3 => ["row", "word"]
  | 4 => ["row"]
  | 5 => ["name"]
  | 6 => ["pile"]
  | 7 => ["step"]
  | 8 => ["number"]
  | _ => []
/-- what may change -/
inductive Ob where
  | lst (ds : List Dv) | dk (kvs : List (Key × Dv)) | dt (kvs : List (List Key × Dv))
abbrev Sto := List Ob
inductive Rs (α : Type) where
  | ok (a : α) (s : Sto) | exc (e : Dv) (s : Sto) | bad
def Rs.bind {α β : Type} (r : Rs α) (f : α → Sto → Rs β) : Rs β := match r with
  | .ok a s => f a s
  | .exc e s => .exc e s
  | .bad => .bad
theorem Rs.bind_ok {α β : Type} {r : Rs α} {f : α → Sto → Rs β} {b : β} {s' : Sto} (h : r.bind f = .ok b s') : ∃ a s, r = .ok a s ∧ f a s = .ok b s' := by
  cases r with
  | ok a s => exact ⟨a, s, rfl, h⟩
  | exc e s => cases h
  | bad => cases h
abbrev En := List (Option Dv)
abbrev Fn (α : Type) := En → Sto → Rs α

/-- where the store's things lie; what is laid aside for the moment -/
structure Lo where
  locs : List Addr
  hid : List Addr
/-- a list at a that nobody changes -/
def Ls (K : PySem.W.Frag) (B : Lo) (H : Hp) (a : Addr) (xs : List V) : Prop :=
  (H a = some (.lst xs) ∧ a ∉ B.locs ∧ a ∉ B.hid) ∨ (∃ o, H a = some (.frz o (.lst xs))) ∨
    ∃ (o : Obj) (its : Array Value) (n : Nat), K.lookup a = some o ∧ o.cls = .type "list" ∧ o.dict = none ∧ o.data = .seq its n ∧ its.size ≤ sizeLine ∧ Vals xs its.toList
theorem Ls.sq {K : PySem.W.Frag} {B : Lo} {H : Hp} {a : Addr} {xs : List V} (h : Ls K B H a xs) : SqL K H a xs := by
  rcases h with ⟨h, _⟩ | h | h
  · exact .inl (.inl h)
  · exact .inl (.inr h)
  · exact .inr h
/-- a tuple at a, its head plain -/
def Tk (K : PySem.W.Frag) (H : Hp) (a : Addr) (xs : List V) : Prop :=
  (∃ o, H a = some (.frz o (.tup xs)) ∧ o.dict = none) ∨
    ∃ (o : Obj) (its : Array Value) (n : Nat), K.lookup a = some o ∧ o.cls = .type "tuple" ∧ o.dict = none ∧ o.data = .seq its n ∧ its.size ≤ sizeLine ∧ Vals xs its.toList
theorem Tk.sq {K : PySem.W.Frag} {H : Hp} {a : Addr} {xs : List V} (h : Tk K H a xs) : SqT K H a xs := by
  rcases h with ⟨o, h, _⟩ | ⟨o, its, n, h1, h2, _, h3⟩
  · exact .inl (.inr ⟨o, h⟩)
  · exact .inr ⟨o, its, n, h1, h2, h3⟩
mutual
inductive Rp (K : PySem.W.Frag) (B : Lo) (H : Hp) : Dv → V → Prop
  | non : Rp K B H .non .non
  | bl (b : Bool) : Rp K B H (.bl b) (.bl b)
  | int (i : Int) : Rp K B H (.int i) (.int i)
  | str (x : Str) : Rp K B H (.str x) (.str x)
  | tup {a : Addr} {xs : List V} {ds : List Dv} : Tk K H a xs → Rps K B H ds xs → Rp K B H (.tup ds) (.ref a)
  | ls {a : Addr} {xs : List V} {ds : List Dv} : Ls K B H a xs → Rps K B H ds xs → Rp K B H (.ls ds) (.ref a)
  | loc {n : Nat} {a : Addr} : B.locs[n]? = some a → Rp K B H (.loc n) (.ref a)
  | xn {a d : Addr} {c : Nat} {fs : List Dv} {kvs : List (Str × V)} {vs : List V} : H d = some (.xd kvs) → d ∉ B.locs → d ∉ B.hid → (fldN c).mapM (fun f => kvs.lookup f) = some vs → Rps K B H fs vs → Rp K B H (.xn a d c fs) (.ref a)
inductive Rps (K : PySem.W.Frag) (B : Lo) (H : Hp) : List Dv → List V → Prop
  | nil : Rps K B H [] []
  | cons {d : Dv} {v : V} {ds : List Dv} {vs : List V} : Rp K B H d v → Rps K B H ds vs → Rps K B H (d :: ds) (v :: vs)
end
/-- what a stretch of running may do to what is tracked -/
structure Mo (B : Lo) (H : Hp) (B' : Lo) (H' : Hp) : Prop where
  pre : B.locs <+: B'.locs
  keep : ∀ b o, H b = some o → b ∉ B.locs → b ∉ B.hid → (∀ ps, o ≠ .tbl ps) → H' b = some o
  tups : ∀ b xs, H b = some (.tup xs) → H' b = some (.tup xs)
  frzs : ∀ b o u, H b = some (.frz o u) → H' b = some (.frz o u)
  new : ∀ b, b ∈ B'.locs ∨ b ∈ B'.hid → b ∈ B.locs ∨ b ∈ B.hid ∨ H b = none
  tbls : ∀ b ps, H b = some (.tbl ps) → ∃ ps', H' b = some (.tbl ps')
theorem tbl_or (o : HO) : (∀ ps, o ≠ .tbl ps) ∨ ∃ ps, o = .tbl ps := by
  cases o
  case tbl ps => exact .inr ⟨ps, rfl⟩
  all_goals exact .inl fun _ z => by cases z
/-- what is there stays there -/
theorem Mo.there {B B' : Lo} {H H' : Hp} (x : Mo B H B' H') {b : Addr} {o : HO} (e : H b = some o) (h1 : b ∉ B.locs) (h2 : b ∉ B.hid) : ∃ u, H' b = some u := by
  rcases tbl_or o with z | ⟨ps, rfl⟩
  · exact ⟨_, x.keep b o e h1 h2 z⟩
  · obtain ⟨q, hq⟩ := x.tbls b ps e
    exact ⟨_, hq⟩
theorem Mo.refl (B : Lo) (H : Hp) : Mo B H B H := ⟨List.prefix_refl _, fun _ _ h _ _ _ => h, fun _ _ h => h, fun _ _ _ h => h, fun _ h => h.elim .inl fun z => .inr (.inl z), fun _ ps h => ⟨ps, h⟩⟩
theorem Mo.trans {B B1 B2 : Lo} {H H1 H2 : Hp} (a : Mo B H B1 H1) (b : Mo B1 H1 B2 H2) : Mo B H B2 H2 where
  pre := a.pre.trans b.pre
  keep := fun c o h hn hh ht => by
    refine b.keep c o (a.keep c o h hn hh ht) (fun z => ?_) (fun z => ?_) ht
    · rcases a.new c (.inl z) with q | q | q
      · exact hn q
      · exact hh q
      · rw [h] at q; cases q
    · rcases a.new c (.inr z) with q | q | q
      · exact hn q
      · exact hh q
      · rw [h] at q; cases q
  tups := fun c xs h => b.tups c xs (a.tups c xs h)
  frzs := fun c o u h => b.frzs c o u (a.frzs c o u h)
  new := fun c h => by
    rcases b.new c h with q | q | q
    · exact a.new c (.inl q)
    · exact a.new c (.inr q)
    · cases e : H c with
      | none => exact .inr (.inr rfl)
      | some o =>
        by_cases hc : c ∈ B.locs
        · exact .inl hc
        · by_cases hh : c ∈ B.hid
          · exact .inr (.inl hh)
          · obtain ⟨u, hu⟩ := a.there e hc hh
            rw [hu] at q; cases q
  tbls := fun c ps h => by
    obtain ⟨q, hq⟩ := a.tbls c ps h
    exact b.tbls c q hq
theorem pre_get {α : Type} {β β' : List α} (h : β <+: β') {n : Nat} {a : α} (e : β[n]? = some a) : β'[n]? = some a := by
  obtain ⟨t, rfl⟩ := h
  have hl : n < β.length := (List.getElem?_eq_some_iff.mp e).1
  rw [List.getElem?_append_left hl]; exact e
section
variable {K : PySem.W.Frag} {B B' : Lo} {H H' : Hp}
theorem Mo.tk (x : Mo B H B' H') {a : Addr} {xs : List V} (h : Tk K H a xs) : Tk K H' a xs := by
  rcases h with ⟨o, h, d⟩ | h
  · exact .inl ⟨o, x.frzs _ _ _ h, d⟩
  · exact .inr h
theorem Mo.ls (x : Mo B H B' H') {a : Addr} {xs : List V} (h : Ls K B H a xs) : Ls K B' H' a xs := by
  rcases h with ⟨h, n, m⟩ | ⟨o, h⟩ | h
  · refine .inl ⟨x.keep _ _ h n m (fun _ z => by cases z), fun z => ?_, fun z => ?_⟩
    · rcases x.new _ (.inl z) with q | q | q
      · exact n q
      · exact m q
      · rw [h] at q; cases q
    · rcases x.new _ (.inr z) with q | q | q
      · exact n q
      · exact m q
      · rw [h] at q; cases q
  · exact .inr (.inl ⟨o, x.frzs _ _ _ h⟩)
  · exact .inr (.inr h)
mutual
theorem Rp.mono (x : Mo B H B' H') : ∀ {d : Dv} {v : V}, Rp K B H d v → Rp K B' H' d v
  | _, _, .non => .non
  | _, _, .bl b => .bl b
  | _, _, .int i => .int i
  | _, _, .str i => .str i
  | _, _, .tup h r => .tup (x.tk h) (Rps.mono x r)
  | _, _, .ls h r => .ls (x.ls h) (Rps.mono x r)
  | _, _, .loc h => .loc (pre_get x.pre h)
  | _, _, .xn h n m l r => .xn (x.keep _ _ h n m (fun _ z => by cases z)) (fun z => by
      rcases x.new _ (.inl z) with q | q | q
      · exact n q
      · exact m q
      · rw [h] at q; cases q) (fun z => by
      rcases x.new _ (.inr z) with q | q | q
      · exact n q
      · exact m q
      · rw [h] at q; cases q) l (Rps.mono x r)
theorem Rps.mono (x : Mo B H B' H') : ∀ {ds : List Dv} {vs : List V}, Rps K B H ds vs → Rps K B' H' ds vs
  | _, _, .nil => .nil
  | _, _, .cons h r => .cons (Rp.mono x h) (Rps.mono x r)
end
theorem Rps.length : ∀ {ds : List Dv} {vs : List V}, Rps K B H ds vs → ds.length = vs.length
  | _, _, .nil => rfl
  | _, _, .cons _ r => congrArg (· + 1) r.length
theorem Rps.get : ∀ {ds : List Dv} {vs : List V}, Rps K B H ds vs → ∀ {i : Nat} {d : Dv}, ds[i]? = some d → ∃ v, vs[i]? = some v ∧ Rp K B H d v
  | _, _, .nil, i, d, e => by simp at e
  | _, _, .cons h r, 0, d, e => by simp at e; subst e; exact ⟨_, rfl, h⟩
  | _, _, .cons h r, i + 1, d, e => by
    obtain ⟨v, h1, h2⟩ := r.get (i := i) (d := d) (by simpa using e)
    exact ⟨v, by simpa using h1, h2⟩
theorem Rps.append : ∀ {ds es : List Dv} {vs us : List V}, Rps K B H ds vs → Rps K B H es us → Rps K B H (ds ++ es) (vs ++ us)
  | _, _, _, _, .nil, s => s
  | _, _, _, _, .cons h r, s => .cons h (r.append s)
theorem Rps.take : ∀ {ds : List Dv} {vs : List V} (n : Nat), Rps K B H ds vs → Rps K B H (ds.take n) (vs.take n)
  | _, _, 0, _ => .nil
  | _, _, _ + 1, .nil => .nil
  | _, _, n + 1, .cons h r => .cons h (r.take n)
theorem Rps.drop : ∀ {ds : List Dv} {vs : List V} (n : Nat), Rps K B H ds vs → Rps K B H (ds.drop n) (vs.drop n)
  | _, _, 0, h => h
  | _, _, _ + 1, .nil => .nil
  | _, _, n + 1, .cons h r => r.drop n
theorem Rps.set : ∀ {ds : List Dv} {vs : List V} (n : Nat) {d : Dv} {v : V}, Rps K B H ds vs → Rp K B H d v → Rps K B H (ds.set n d) (vs.set n v)
  | _, _, _, _, _, .nil, _ => .nil
  | _, _, 0, _, _, .cons h r, q => .cons q r
  | _, _, n + 1, _, _, .cons h r, q => .cons h (r.set n q)
theorem Rps.eraseIdx : ∀ {ds : List Dv} {vs : List V} (n : Nat), Rps K B H ds vs → Rps K B H (ds.eraseIdx n) (vs.eraseIdx n)
  | _, _, _, .nil => .nil
  | _, _, 0, .cons h r => r
  | _, _, n + 1, .cons h r => .cons h (r.eraseIdx n)
theorem Rps.reverse {ds : List Dv} {vs : List V} (h : Rps K B H ds vs) : Rps K B H ds.reverse vs.reverse := by
  induction h using Rps.rec (motive_1 := fun _ _ _ => True) with
  | non => trivial
  | bl => trivial
  | int => trivial
  | str => trivial
  | tup => trivial
  | ls => trivial
  | loc => trivial
  | xn => trivial
  | nil => exact .nil
  | cons h r _ ih =>
    rw [List.reverse_cons, List.reverse_cons]
    exact ih.append (.cons h .nil)
end

/-! ### the store -/
section
variable (K : PySem.W.Frag)
def RpO (B : Lo) (H : Hp) (a : Addr) : Ob → Prop
  | .lst ds => ∃ xs, H a = some (.lst xs) ∧ Rps K B H ds xs
  | .dk kvs => ∃ ks, H a = some (.dK ks) ∧ Paired (fun (p : Key × Dv) (q : Key × V) => p.1 = q.1 ∧ Rp K B H p.2 q.2) kvs ks
  | .dt kvs => ∃ ks, H a = some (.dT ks) ∧ Paired (fun (p : List Key × Dv) (q : List Key × V) => p.1 = q.1 ∧ Rp K B H p.2 q.2) kvs ks
/-- the table at P has lambdas of the name q alone -/
def TabZ (B : Lo) (H : Hp) (P : Addr) (q : Str) : Prop := ∃ ps : Array Value, H P = some (.tbl ps) ∧ TriplesOk ps.toList ∧ ∀ (pos : Pos) (cv : Value), codeAmong pos ps.toList = some cv → ∃ c, cv = .ref c ∧ H c = some (LamX.CodeO c q) ∧ c ∉ B.locs ∧ c ∉ B.hid
structure Sim (B : Lo) (H : Hp) (s : Sto) : Prop where
  nd : B.locs.Nodup
  len : B.locs.length = s.length
  obs : ∀ (n : Nat) (a : Addr) (o : Ob), B.locs[n]? = some a → s[n]? = some o → RpO K B H a o
  hid : ∀ b ∈ B.hid, b ∉ B.locs ∧ ∃ u, H b = some u ∧ MutH (some u)
  tabs : ∀ x ∈ tabN, ∀ c P, PySem.W.tabIn K x = some (c, P) → TabZ B H P (lamQ x)
end
section
variable {K : PySem.W.Frag} {B B' : Lo} {H H' : Hp} {s : Sto}
theorem RpO.mono (x : Mo B H B' H') {a : Addr} (e : H' a = H a) {o : Ob} (h : RpO K B H a o) : RpO K B' H' a o := by
  cases o with
  | lst ds => obtain ⟨xs, h1, h2⟩ := h; exact ⟨xs, e.trans h1, h2.mono x⟩
  | dk kvs => obtain ⟨ks, h1, h2⟩ := h; exact ⟨ks, e.trans h1, Paired.mapP h2 fun p q z => ⟨z.1, z.2.mono x⟩⟩
  | dt kvs => obtain ⟨ks, h1, h2⟩ := h; exact ⟨ks, e.trans h1, Paired.mapP h2 fun p q z => ⟨z.1, z.2.mono x⟩⟩
theorem TabZ.mono (x : Mo B H B' H') {P : Addr} {q : Str} (e : H' P = H P) (h : TabZ B H P q) : TabZ B' H' P q := by
  obtain ⟨ps, h1, h2, h3⟩ := h
  refine ⟨ps, e.trans h1, h2, fun pos cv hc => ?_⟩
  obtain ⟨c, e1, e2, n, m⟩ := h3 pos cv hc
  refine ⟨c, e1, x.keep _ _ e2 n m (fun ps z => LamX.codeO_ne ps z), fun z => ?_, fun z => ?_⟩
  · rcases x.new _ (.inl z) with q | q | q
    · exact n q
    · exact m q
    · rw [e2] at q; cases q
  · rcases x.new _ (.inr z) with q | q | q
    · exact n q
    · exact m q
    · rw [e2] at q; cases q
theorem TabZ.cut {L : List Addr} (hp : L <+: B.locs) {P : Addr} {q : Str} (x : TabZ B H P q) : TabZ ⟨L, B.hid⟩ H P q := by
  obtain ⟨ps, h1, h2, h3⟩ := x
  refine ⟨ps, h1, h2, fun pos cv hc => ?_⟩
  obtain ⟨c, e1, e2, n, m⟩ := h3 pos cv hc
  exact ⟨c, e1, e2, fun z => n (hp.subset z), m⟩
theorem TabZ.ne {P a : Addr} {q : Str} (h : TabZ B H P q) {u : HO} (e : H a = some u) (hm : MutH (some u)) : P ≠ a := fun z => by
  obtain ⟨ps, h1, _⟩ := h
  rw [z, e] at h1; cases h1; exact hm
theorem TabZ.ne0 {P a : Addr} {q : Str} (h : TabZ B H P q) (e : H a = none) : P ≠ a := fun z => by
  obtain ⟨ps, h1, _⟩ := h
  rw [z, e] at h1; cases h1
theorem RpO.there {a : Addr} {o : Ob} (h : RpO K B H a o) : ∃ u, H a = some u ∧ MutH (some u) := by
  cases o with
  | lst ds => obtain ⟨xs, h1, h2⟩ := h; exact ⟨_, h1, trivial⟩
  | dk kvs => obtain ⟨ks, h1, h2⟩ := h; exact ⟨_, h1, trivial⟩
  | dt kvs => obtain ⟨ks, h1, h2⟩ := h; exact ⟨_, h1, trivial⟩
theorem Sim.at (S : Sim K B H s) {n : Nat} {a : Addr} (h : B.locs[n]? = some a) : ∃ o, s[n]? = some o ∧ RpO K B H a o := by
  have hl : n < s.length := by rw [← S.len]; exact (List.getElem?_eq_some_iff.mp h).1
  exact ⟨s[n], List.getElem?_eq_getElem hl, S.obs n a _ h (List.getElem?_eq_getElem hl)⟩
theorem Sim.mem (S : Sim K B H s) {a : Addr} (h : a ∈ B.locs) : ∃ u, H a = some u ∧ MutH (some u) := by
  obtain ⟨n, hn⟩ := List.getElem?_of_mem h
  obtain ⟨o, _, r⟩ := S.at hn
  exact r.there
theorem Sim.free (S : Sim K B H s) {p : Addr} (h : H p = none) : p ∉ B.locs := fun z => by
  obtain ⟨u, e, _⟩ := S.mem z
  rw [h] at e; cases e
theorem Sim.freeH (S : Sim K B H s) {p : Addr} (h : H p = none) : p ∉ B.hid := fun z => by
  obtain ⟨_, xs, e, _⟩ := S.hid p z
  rw [h] at e; cases e
/-- a new thing that the store doesn't have -/
theorem Mo.laid {p : Addr} {o : HO} (h : H p = none) : Mo B H B (upd H p o) :=
  ⟨List.prefix_refl _, fun b u e _ _ _ => by rw [upd_ne (ne_of_none e h)]; exact e, fun b u e => by rw [upd_ne (ne_of_none e h)]; exact e, fun b u v e => by rw [upd_ne (ne_of_none e h)]; exact e, fun _ z => z.elim .inl fun z => .inr (.inl z), fun b ps e => ⟨ps, by rw [upd_ne (ne_of_none e h)]; exact e⟩⟩
/-- .. laid aside -/
theorem Mo.aside {p : Addr} {o : HO} (h : H p = none) : Mo B H ⟨B.locs, p :: B.hid⟩ (upd H p o) :=
  ⟨List.prefix_refl _, fun b u e _ _ _ => by rw [upd_ne (ne_of_none e h)]; exact e, fun b u e => by rw [upd_ne (ne_of_none e h)]; exact e, fun b u v e => by rw [upd_ne (ne_of_none e h)]; exact e, fun b z => by
    rcases z with z | z
    · exact .inl z
    · rcases List.mem_cons.mp z with z | z
      · rw [z]; exact .inr (.inr h)
      · exact .inr (.inl z), fun b ps e => ⟨ps, by rw [upd_ne (ne_of_none e h)]; exact e⟩⟩
theorem Sim.laid (S : Sim K B H s) {p : Addr} {o : HO} (h : H p = none) : Sim K B (upd H p o) s :=
  ⟨S.nd, S.len, fun n a u e1 e2 => by
    obtain ⟨v, ev, _⟩ := (S.obs n a u e1 e2).there
    exact (S.obs n a u e1 e2).mono (Mo.laid h) (upd_ne (ne_of_none ev h)), fun b hb => by
    obtain ⟨h1, xs, e, hm⟩ := S.hid b hb
    exact ⟨h1, xs, (upd_ne (ne_of_none e h)).trans e, hm⟩, fun x hx c P e => (S.tabs x hx c P e).mono (Mo.laid h) (upd_ne ((S.tabs x hx c P e).ne0 h))⟩
theorem Sim.aside (S : Sim K B H s) {p : Addr} {o : HO} (h : H p = none) (hm : MutH (some o) := by trivial) : Sim K ⟨B.locs, p :: B.hid⟩ (upd H p o) s :=
  ⟨S.nd, S.len, fun n a u e1 e2 => by
    obtain ⟨v, ev, _⟩ := (S.obs n a u e1 e2).there
    exact (S.obs n a u e1 e2).mono (Mo.aside h) (upd_ne (ne_of_none ev h)), fun b hb => by
    rcases List.mem_cons.mp hb with z | z
    · subst z; exact ⟨S.free h, _, upd_same, hm⟩
    · obtain ⟨h1, xs, e, hm⟩ := S.hid b z
      exact ⟨h1, xs, (upd_ne (ne_of_none e h)).trans e, hm⟩, fun x hx c P e => (S.tabs x hx c P e).mono (Mo.aside h) (upd_ne ((S.tabs x hx c P e).ne0 h))⟩
/-- what was laid aside is let go: it is a list that nobody changes -/
theorem Mo.back {p : Addr} : Mo ⟨B.locs, p :: B.hid⟩ H B H :=
  ⟨List.prefix_refl _, fun b u e _ _ _ => e, fun b u e => e, fun b u v e => e, fun b z => z.elim .inl fun z => .inr (.inl (List.mem_cons_of_mem _ z)), fun _ ps e => ⟨ps, e⟩⟩
theorem Sim.back {p : Addr} (S : Sim K ⟨B.locs, p :: B.hid⟩ H s) : Sim K B H s :=
  ⟨S.nd, S.len, fun n a u e1 e2 => (S.obs n a u e1 e2).mono Mo.back rfl, fun b hb => S.hid b (List.mem_cons_of_mem _ hb), fun x hx c P e => (S.tabs x hx c P e).mono Mo.back rfl⟩
/-- .. or it is put into the store -/
theorem Mo.adopt {p : Addr} : Mo ⟨B.locs, p :: B.hid⟩ H ⟨B.locs ++ [p], B.hid⟩ H :=
  ⟨List.prefix_append _ _, fun b u e _ _ _ => e, fun b u e => e, fun b u v e => e, fun b z => by
    rcases z with z | z
    · rcases List.mem_append.mp z with z | z
      · exact .inl z
      · rw [List.mem_singleton.mp z]; exact .inr (.inl List.mem_cons_self)
    · exact .inr (.inl (List.mem_cons_of_mem _ z)), fun _ ps e => ⟨ps, e⟩⟩
theorem Sim.adopt {p : Addr} {o : Ob} (S : Sim K ⟨B.locs, p :: B.hid⟩ H s) (hh : p ∉ B.hid) (r : RpO K ⟨B.locs, p :: B.hid⟩ H p o) : Sim K ⟨B.locs ++ [p], B.hid⟩ H (s ++ [o]) := by
  have hp : p ∉ B.locs := (S.hid p List.mem_cons_self).1
  refine ⟨List.nodup_append.mpr ⟨S.nd, by simp, fun a ha b hb => ?_⟩, by simp [← S.len], fun n a u e1 e2 => ?_, fun b hb => ?_, fun x hx c P e => (S.tabs x hx c P e).mono Mo.adopt rfl⟩
  · rw [List.mem_singleton.mp hb]; exact fun z => hp (z ▸ ha)
  · have hl : B.locs.length = s.length := S.len
    have e1' : (B.locs ++ [p])[n]? = some a := e1
    by_cases hn : n < B.locs.length
    · rw [List.getElem?_append_left hn] at e1'
      rw [List.getElem?_append_left (by rw [← hl]; exact hn)] at e2
      exact (S.obs n a u e1' e2).mono Mo.adopt rfl
    · have h2 : n = B.locs.length := by
        have := (List.getElem?_eq_some_iff.mp e1').1
        simp at this; omega
      subst h2
      rw [List.getElem?_append_right (Nat.le_refl _)] at e1'
      rw [hl, List.getElem?_append_right (Nat.le_refl _)] at e2
      simp at e1' e2
      subst e1'; subst e2
      exact r.mono Mo.adopt rfl
  · obtain ⟨h1, h2⟩ := S.hid b (List.mem_cons_of_mem _ hb)
    refine ⟨fun z => ?_, h2⟩
    rcases List.mem_append.mp z with z | z
    · exact h1 z
    · rw [List.mem_singleton.mp z] at hb; exact hh hb
/-- a thing of the store is changed -/
theorem Mo.write (S : Sim K B H s) {n : Nat} {a : Addr} {o : HO} (e : B.locs[n]? = some a) : Mo B H B (upd H a o) := by
  obtain ⟨u, hu, hm⟩ := S.mem (List.mem_of_getElem? e)
  refine ⟨List.prefix_refl _, fun b v q hb _ _ => ?_, fun b xs q => ?_, fun b v w q => ?_, fun _ z => z.elim .inl fun z => .inr (.inl z), fun b ps q => ⟨ps, ?_⟩⟩
  · rw [upd_ne (fun z : b = a => hb (z ▸ List.mem_of_getElem? e))]; exact q
  · rw [upd_ne (fun z => by subst z; rw [q] at hu; cases hu; exact hm)]; exact q
  · rw [upd_ne (fun z => by subst z; rw [q] at hu; cases hu; exact hm)]; exact q
  · rw [upd_ne (fun z => by subst z; rw [q] at hu; cases hu; exact hm)]; exact q
theorem Sim.write (S : Sim K B H s) {n : Nat} {a : Addr} {o : HO} {u : Ob} (e : B.locs[n]? = some a) (r : RpO K B (upd H a o) a u) : Sim K B (upd H a o) (s.set n u) := by
  refine ⟨S.nd, by rw [List.length_set]; exact S.len, fun m b v e1 e2 => ?_, fun b hb => ?_, fun x hx c P q => ?_⟩
  · by_cases hm : n = m
    · subst hm
      rw [e] at e1; cases e1
      have hl : n < s.length := by rw [← S.len]; exact (List.getElem?_eq_some_iff.mp e).1
      rw [List.getElem?_set_self hl] at e2; cases e2
      exact r
    · rw [List.getElem?_set_ne hm] at e2
      have hb : b ≠ a := fun z => by
        subst z
        obtain ⟨h1, q1⟩ := List.getElem?_eq_some_iff.mp e
        obtain ⟨h2, q2⟩ := List.getElem?_eq_some_iff.mp e1
        exact hm ((List.getElem_inj S.nd).mp (q1.trans q2.symm))
      exact (S.obs m b v e1 e2).mono (Mo.write S e) (upd_ne hb)
  · obtain ⟨h1, xs, h2, hm⟩ := S.hid b hb
    exact ⟨h1, xs, (upd_ne fun z : b = a => h1 (z ▸ List.mem_of_getElem? e)).trans h2, hm⟩
  · obtain ⟨u, hu, hm⟩ := S.mem (List.mem_of_getElem? e)
    exact (S.tabs x hx c P q).mono (Mo.write S e) (upd_ne ((S.tabs x hx c P q).ne hu hm))
end

/-- what a stretch of running may do, and what was laid aside stands -/
structure Ext (B : Lo) (H : Hp) (B' : Lo) (H' : Hp) : Prop where
  mo : Mo B H B' H'
  keepH : ∀ b o, H b = some o → b ∈ B.hid → H' b = some o
  sub : ∀ b ∈ B.hid, b ∈ B'.hid
  newL : ∀ b ∈ B'.locs, b ∈ B.locs ∨ H b = none
theorem Ext.refl (B : Lo) (H : Hp) : Ext B H B H := ⟨Mo.refl B H, fun _ _ h _ => h, fun _ h => h, fun _ h => .inl h⟩
theorem Ext.trans {B B1 B2 : Lo} {H H1 H2 : Hp} (a : Ext B H B1 H1) (b : Ext B1 H1 B2 H2) : Ext B H B2 H2 where
  mo := a.mo.trans b.mo
  keepH := fun c o h hc => b.keepH c o (a.keepH c o h hc) (a.sub c hc)
  sub := fun c hc => b.sub c (a.sub c hc)
  newL := fun c hc => by
    rcases b.newL c hc with q | q
    · exact a.newL c q
    · cases e : H c with
      | none => exact .inr rfl
      | some o =>
        by_cases hl : c ∈ B.locs
        · exact .inl hl
        · by_cases hh : c ∈ B.hid
          · rw [a.keepH c o e hh] at q; cases q
          · obtain ⟨u, hu⟩ := a.mo.there e hl hh
            rw [hu] at q; cases q
section
variable {K : PySem.W.Frag} {B B' : Lo} {H H' : Hp} {s : Sto}
theorem Ext.was_none (x : Ext B H B' H') {b : Addr} (h : H' b = none) (hb : b ∉ B.locs) : H b = none := by
  cases e : H b with
  | none => rfl
  | some o =>
    by_cases hh : b ∈ B.hid
    · rw [x.keepH b o e hh] at h; cases h
    · obtain ⟨u, hu⟩ := x.mo.there e hb hh
      rw [hu] at h; cases h
theorem Ext.laid {p : Addr} {o : HO} (h : H p = none) : Ext B H B (upd H p o) :=
  ⟨Mo.laid h, fun b u e _ => by rw [upd_ne (ne_of_none e h)]; exact e, fun _ h => h, fun _ h => .inl h⟩
theorem Ext.aside {p : Addr} {o : HO} (h : H p = none) : Ext B H ⟨B.locs, p :: B.hid⟩ (upd H p o) :=
  ⟨Mo.aside h, fun b u e _ => by rw [upd_ne (ne_of_none e h)]; exact e, fun _ h => List.mem_cons_of_mem _ h, fun _ h => .inl h⟩
theorem Ext.write (S : Sim K B H s) {n : Nat} {a : Addr} {o : HO} (e : B.locs[n]? = some a) : Ext B H B (upd H a o) :=
  ⟨Mo.write S e, fun b u q hb => by
    rw [upd_ne (fun z : b = a => (S.hid b hb).1 (z ▸ List.mem_of_getElem? e))]; exact q, fun _ h => h, fun _ h => .inl h⟩
/-- a thing that came up on the way is changed -/
theorem Ext.rewrite (x : Ext B H B' H') {p : Addr} {o : HO} (h : H p = none) : Ext B H B' (upd H' p o) where
  mo := ⟨x.mo.pre, fun b u e h1 h2 h3 => by rw [upd_ne (ne_of_none e h)]; exact x.mo.keep b u e h1 h2 h3, fun b u e => by rw [upd_ne (ne_of_none e h)]; exact x.mo.tups b u e, fun b u v e => by rw [upd_ne (ne_of_none e h)]; exact x.mo.frzs b u v e, x.mo.new, fun b ps e => by
    obtain ⟨q, hq⟩ := x.mo.tbls b ps e
    exact ⟨q, by rw [upd_ne (ne_of_none e h)]; exact hq⟩⟩
  keepH := fun b u e hb => by rw [upd_ne (ne_of_none e h)]; exact x.keepH b u e hb
  sub := x.sub
  newL := x.newL
theorem Ext.drop {L h : List Addr} {p : Addr} (x : Ext B H ⟨L, p :: h⟩ H') (hs : ∀ b ∈ B.hid, b ∈ h) : Ext B H ⟨L, h⟩ H' :=
  ⟨⟨x.mo.pre, x.mo.keep, x.mo.tups, x.mo.frzs, fun b z => x.mo.new b (z.elim .inl fun z => .inr (List.mem_cons_of_mem _ z)), x.mo.tbls⟩, x.keepH, hs, x.newL⟩
theorem Ext.adopt {L h : List Addr} {p : Addr} (x : Ext B H ⟨L, p :: h⟩ H') (hp : H p = none) (hs : ∀ b ∈ B.hid, b ∈ h) : Ext B H ⟨L ++ [p], h⟩ H' :=
  ⟨⟨x.mo.pre.trans (List.prefix_append _ _), x.mo.keep, x.mo.tups, x.mo.frzs, fun b z => by
    rcases z with z | z
    · rcases List.mem_append.mp z with z | z
      · exact x.mo.new b (.inl z)
      · rw [List.mem_singleton.mp z]; exact .inr (.inr hp)
    · exact x.mo.new b (.inr (List.mem_cons_of_mem _ z)), x.mo.tbls⟩, x.keepH, hs, fun b z => by
    rcases List.mem_append.mp z with z | z
    · exact x.newL b z
    · rw [List.mem_singleton.mp z]; exact .inr hp⟩
end

/-! ### readings by data -/
def RpE (K : PySem.W.Frag) (B : Lo) (H : Hp) (env : En) (σ : L2.St) : Prop := env.length = σ.length ∧ ∀ (i : Nat) (d : Dv), env[i]? = some (some d) → ∃ v, σ[i]? = some (some v) ∧ Rp K B H d v
section
variable {K : PySem.W.Frag} {B B' : Lo} {H H' : Hp} {s s' : Sto} {env : En} {σ : L2.St}
theorem RpE.mono (x : Mo B H B' H') (h : RpE K B H env σ) : RpE K B' H' env σ := ⟨h.1, fun i d e => by
  obtain ⟨v, e1, r⟩ := h.2 i d e
  exact ⟨v, e1, r.mono x⟩⟩
theorem RpE.set (h : RpE K B H env σ) (i : Nat) {d : Dv} {v : V} (r : Rp K B H d v) : RpE K B H (env.set i (some d)) (σ.set i (some v)) := by
  refine ⟨by rw [List.length_set, List.length_set]; exact h.1, fun j e q => ?_⟩
  by_cases hj : i = j
  · subst hj
    have hl : i < env.length := by have := (List.getElem?_eq_some_iff.mp q).1; simpa using this
    rw [List.getElem?_set_self hl] at q
    cases q
    exact ⟨v, List.getElem?_set_self (by rw [← h.1]; exact hl), r⟩
  · rw [List.getElem?_set_ne hj] at q
    rw [List.getElem?_set_ne hj]
    exact h.2 j e q
theorem RpE.unset (h : RpE K B H env σ) (i : Nat) : RpE K B H (env.set i none) (σ.set i none) := by
  refine ⟨by rw [List.length_set, List.length_set]; exact h.1, fun j e q => ?_⟩
  by_cases hj : i = j
  · subst hj
    have hl : i < env.length := by have := (List.getElem?_eq_some_iff.mp q).1; simpa using this
    rw [List.getElem?_set_self hl] at q
    cases q
  · rw [List.getElem?_set_ne hj] at q
    rw [List.getElem?_set_ne hj]
    exact h.2 j e q
end
/-- what is handed on behind: the value, the store -/
def tOf (K : PySem.W.Frag) (f : Fn Dv) : TE := fun σ H Q => ∃ B env s d s', RpE K B H env σ ∧ Sim K B H s ∧ f env s = .ok d s' ∧
  ∀ (B' : Lo) (H' : Hp) (v : V), Ext B H B' H' → B'.hid = B.hid → Sim K B' H' s' → Rp K B' H' d v → Q v H'
/-- a new list that nobody else has -/
def tOfL (K : PySem.W.Frag) (f : Fn (List Dv)) : TE := fun σ H Q => ∃ B env s ds s', RpE K B H env σ ∧ Sim K B H s ∧ f env s = .ok ds s' ∧
  ∀ (B' : Lo) (H' : Hp) (p : Addr) (xs : List V), Ext B H ⟨B'.locs, p :: B'.hid⟩ H' → B'.hid = B.hid → Sim K ⟨B'.locs, p :: B'.hid⟩ H' s' → p ∉ B'.hid → H p = none → H' p = some (.lst xs) → Rps K ⟨B'.locs, p :: B'.hid⟩ H' ds xs → Q (.ref p) H'
def tOfA (K : PySem.W.Frag) (f : Fn (List Dv)) : TA := fun σ H Q => ∃ B env s ds s', RpE K B H env σ ∧ Sim K B H s ∧ f env s = .ok ds s' ∧
  ∀ (B' : Lo) (H' : Hp) (vs : List V), Ext B H B' H' → B'.hid = B.hid → Sim K B' H' s' → Rps K B' H' ds vs → Q vs H'
def tOfT (K : PySem.W.Frag) (f : Fn Bool) : TT := fun σ H Q => ∃ B env s b s', RpE K B H env σ ∧ Sim K B H s ∧ f env s = .ok b s' ∧
  ∀ (B' : Lo) (H' : Hp), Ext B H B' H' → B'.hid = B.hid → Sim K B' H' s' → Q b H'
abbrev ZE (X : Cx) (e : Expr) (f : Fn Dv) : Prop := PE X e (tOf X.K f)
abbrev ZL (X : Cx) (e : Expr) (f : Fn (List Dv)) : Prop := PE X e (tOfL X.K f)
abbrev ZA (X : Cx) (es : List Expr) (f : Fn (List Dv)) : Prop := PA X es (tOfA X.K f)
abbrev ZT (X : Cx) (e : Expr) (f : Fn Bool) : Prop := PT X e (tOfT X.K f)
theorem pe_mono {X : Cx} {e : Expr} {t t' : TE} (h : PE X e t) (hh : ∀ σ H Q, t' σ H Q → t σ H Q) : PE X e t' := ⟨fun pins s σ H Q I q => h.run pins s σ H Q I (hh _ _ _ q)⟩
theorem pe_alt {X : Cx} {e : Expr} {t t' : TE} (h : PE X e t) (h' : PE X e t') : PE X e (fun σ H Q => t σ H Q ∨ t' σ H Q) := ⟨fun pins s σ H Q I q => q.elim (h.run pins s σ H Q I) (h'.run pins s σ H Q I)⟩
theorem pt_mono {X : Cx} {e : Expr} {t t' : TT} (h : PT X e t) (hh : ∀ σ H Q, t' σ H Q → t σ H Q) : PT X e t' := ⟨fun pins s σ H Q I q => h.run pins s σ H Q I (hh _ _ _ q)⟩
theorem pa_mono {X : Cx} {e : List Expr} {t t' : TA} (h : PA X e t) (hh : ∀ σ H Q, t' σ H Q → t σ H Q) : PA X e t' := ⟨fun pos pins s σ H Q I q => h.run pos pins s σ H Q I (hh _ _ _ q)⟩
theorem ps_mono {X : Cx} {e : Stmt} {t t' : TS} (h : PS X e t) (hh : ∀ D σ H, t' D σ H → t D σ H) : PS X e t' := ⟨fun pins s σ H Q I q => h.run pins s σ H Q I (hh _ _ _ q)⟩
theorem ps_alt {X : Cx} {e : Stmt} {t t' : TS} (h : PS X e t) (h' : PS X e t') : PS X e (fun D σ H => t D σ H ∨ t' D σ H) := ⟨fun pins s σ H Q I q => q.elim (h.run pins s σ H Q I) (h'.run pins s σ H Q I)⟩
theorem pg_mono {X : Cx} {e : Expr} {t t' : TG} (h : PG X e t) (hh : ∀ v σ H Q, t' v σ H Q → t v σ H Q) : PG X e t' := ⟨fun pins s σ H v u Q I r q => h.run pins s σ H v u Q I r (hh _ _ _ _ q)⟩
end Z

namespace Z
open PySem PySem.Spec PyProof.Rows L2

/-! ### the context by data -/
/-- what stands behind the top -/
structure Gz where
  prog : Program
  w : World
  K : PySem.W.Frag
  mg : Str → Option Value
  base : Heap
structure Cz (G : Gz) (bs : List Str) (k : Nat) (X : Cx) (N : List Str) (nm : List (Str × NameKind)) (ow : Str → Bool) : Prop where
  hN : X.N = N
  nd : N.Nodup
  kd : X.env.scope.kind = .function
  nm : X.env.scope.names = nm
  ow : X.fn = ow
  calm : X.calm = true
  rm : Room k X.A
  gd : X.A.guards = some []
  bl : ∀ x ∈ bs, X.mg x = none
  gp : X.prog = G.prog
  gw : X.w = G.w
  gK : X.K = G.K
  gm : X.mg = G.mg
  gb : X.base = G.base
  po : PassesOwn (model X.prog X.w) X.A X.env X.xe
/-- the name x stands in place i, to be read -/
def vOk (N : List Str) (nm : List (Str × NameKind)) (i : Nat) (x : Str) : Bool :=
  decide (N[i]? = some x) && (match nm.lookup x with | some .local => true | some .cell => true | some .free => true | _ => false)
/-- .. to be stored -/
def sOk (N : List Str) (nm : List (Str × NameKind)) (ow : Str → Bool) (i : Nat) (x : Str) : Bool :=
  decide (N[i]? = some x) && (match nm.lookup x with | some .local => true | some .cell => ow x | _ => false)
/-- a name of the module or a builtin -/
def gOk (nm : List (Str × NameKind)) (x : Str) : Bool := match nm.lookup x with | some .globalImplicit => true | _ => false
/-- a builtin -/
def bOk (bs : List Str) (nm : List (Str × NameKind)) (x : Str) : Bool := gOk nm x && bs.contains x
section
variable {G : Gz} {bs : List Str} {k : Nat} {X : Cx} {N : List Str} {nm : List (Str × NameKind)} {ow : Str → Bool} {x : Str} {i : Nat} {pos : Pos}
theorem Cz.vis (c : Cz G bs k X N nm ow) (h : vOk N nm i x = true) : X.N[i]? = some x ∧ Vis X.env.scope x := by
  unfold vOk at h
  rw [Bool.and_eq_true] at h
  obtain ⟨h1, h2⟩ := h
  refine ⟨by rw [c.hN]; exact of_decide_eq_true h1, ?_⟩
  unfold Vis
  rw [c.nm]
  split at h2
  · rename_i e; exact .inl e
  · rename_i e; exact .inr (.inl e)
  · rename_i e; exact .inr (.inr e)
  · cases h2
theorem Cz.loc (c : Cz G bs k X N nm ow) (h : sOk N nm ow i x = true) : X.N[i]? = some x ∧ Loc X.env.scope x ∧ (X.fn x = true ∨ X.env.scope.names.lookup x = some .local) := by
  unfold sOk at h
  rw [Bool.and_eq_true] at h
  obtain ⟨h1, h2⟩ := h
  refine ⟨by rw [c.hN]; exact of_decide_eq_true h1, ?_⟩
  unfold L2.Loc
  rw [c.nm, c.ow]
  split at h2
  · rename_i e; exact ⟨.inl e, .inr e⟩
  · rename_i e; exact ⟨.inr e, .inl h2⟩
  · cases h2
theorem Cz.gl (c : Cz G bs k X N nm ow) (h : gOk nm x = true) : Gl X x := by
  unfold gOk at h
  unfold Gl
  show X.env.scope.names.lookup x = _
  rw [c.nm]
  split at h
  · assumption
  · cases h
theorem Cz.blt (c : Cz G bs k X N nm ow) (h : bOk bs nm x = true) : Gl X x ∧ X.mg x = none := by
  unfold bOk at h
  rw [Bool.and_eq_true] at h
  exact ⟨c.gl h.1, c.bl x (List.contains_iff_mem.mp h.2)⟩
theorem Cz.un (c : Cz G bs k X N nm ow) : X.A.units + 64 < cLine := c.rm.units
end

/-! ### names, constants -/
def fVar (i : Nat) : Fn Dv := fun env s => match env[i]? with | some (some d) => .ok d s | _ => .bad
theorem fVar_ok {i : Nat} {env : En} {s s' : Sto} {d : Dv} (h : fVar i env s = .ok d s') : env[i]? = some (some d) ∧ s = s' := by
  unfold fVar at h
  split at h
  · rename_i e
    cases h
    exact ⟨e, rfl⟩
  · cases h
/-- a guard -/
def Rs.iff {α : Type} (c : Bool) (r : Rs α) : Rs α := if c = true then r else .bad
theorem Rs.iff_ok {α : Type} {c : Bool} {r : Rs α} {a : α} {s : Sto} (h : Rs.iff c r = .ok a s) : c = true ∧ r = .ok a s := by
  unfold Rs.iff at h
  split at h
  · exact ⟨by assumption, h⟩
  · cases h
def fC (d : Dv) : Fn Dv := fun _ s => .ok d s
section
variable {G : Gz} {bs : List Str} {k : Nat} {X : Cx} {N : List Str} {nm : List (Str × NameKind)} {ow : Str → Bool} {x : Str} {i : Nat} {pos : Pos} {a b e : Expr} {es : List Expr} {fa fb fc : Fn Dv} {fs : Fn (List Dv)}
theorem z_var (c : Cz G bs k X N nm ow) (h : vOk N nm i x = true) (hd : (x == ("__debug__" : Str)) = false := by decide +kernel) (hcd : (x == ("__classdict__" : Str)) = false := by decide +kernel) : ZE X (.Name x pos) (fVar i) := by
  obtain ⟨h1, h2⟩ := c.vis h
  refine pe_mono (pe_var h1 h2 hd hcd) fun σ H Q q => ?_
  obtain ⟨B, env, s, d, s', hE, hS, hf, hQ⟩ := q
  obtain ⟨e, rfl⟩ := fVar_ok hf
  obtain ⟨v, ev, r⟩ := hE.2 i d e
  exact ⟨v, ev, hQ B H v (Ext.refl _ _) rfl hS r⟩
theorem z_const {v : V} {d : Dv} (h : PE X e (tC v)) (r : ∀ B H, Rp X.K B H d v) : ZE X e (fC d) := by
  refine pe_mono h fun σ H Q q => ?_
  obtain ⟨B, env, s, d', s', hE, hS, hf, hQ⟩ := q
  cases hf
  exact hQ B H v (Ext.refl _ _) rfl hS (r _ _)
theorem z_int {i : Int} {j} : ZE X (.Constant (.int i) j pos) (fC (.int i)) := z_const pe_int fun _ _ => .int i
theorem z_str {i : Str} {j} : ZE X (.Constant (.str i) j pos) (fC (.str i)) := z_const pe_str fun _ _ => .str i
theorem z_bl {i : Bool} {j} : ZE X (.Constant (.bool i) j pos) (fC (.bl i)) := z_const pe_bl fun _ _ => .bl i
theorem z_non {j} : ZE X (.Constant .none j pos) (fC .non) := z_const pe_non fun _ _ => .non

/-! ### displays -/
def fNil : Fn (List Dv) := fun _ s => .ok [] s
def fCons (f : Fn Dv) (g : Fn (List Dv)) : Fn (List Dv) := fun env s => (f env s).bind fun d s1 => (g env s1).bind fun ds s2 => .ok (d :: ds) s2
theorem z_nil : ZA X [] fNil := by
  refine pa_mono pa_nil fun σ H Q q => ?_
  obtain ⟨B, env, s, d', s', hE, hS, hf, hQ⟩ := q
  cases hf
  exact hQ B H [] (Ext.refl _ _) rfl hS .nil
theorem z_cons (ha : ZE X e fa) (hr : ZA X es fs) (hs : starEach (e :: es) X.env = (false, eval e X.env) :: starEach es X.env := by rfl) : ZA X (e :: es) (fCons fa fs) := by
  refine pa_mono (pa_cons ha hr hs) fun σ H Q q => ?_
  obtain ⟨B, env, s, d', s', hE, hS, hf, hQ⟩ := q
  obtain ⟨d, s1, h1, hf⟩ := Rs.bind_ok hf
  obtain ⟨ds, s2, h2, hf⟩ := Rs.bind_ok hf
  cases hf
  refine ⟨B, env, s, d, s1, hE, hS, h1, fun B1 H1 v x1 e1 S1 r1 => ?_⟩
  refine ⟨B1, env, s1, _, _, hE.mono x1.mo, S1, h2, fun B2 H2 vs x2 e2 S2 r2 => ?_⟩
  exact hQ B2 H2 _ (x1.trans x2) (e2.trans e1) S2 (.cons (r1.mono x2.mo) r2)

/-- a new tuple with a plain head -/
theorem tupK_new {pins : List (Addr × Obj)} {σ : L2.St} {H : Hp} {s : Shared} {xs : List V} {us : List Value} {t' : Nat} (I : Inv X pins σ H s) (hz : xs.length ≤ sizeLine) (r : Vals xs us) {Q : VK}
    (q : ∀ p o, H p = none → o.dict = none → Q (.ref p) (upd H p (.frz o (.tup xs)))) : EP X pins σ Q (.ref s.heap.objs.size) { s with heap := s.heap.push { cls := .type "tuple", data := .seq us.toArray }, toks := t' } := by
  have hf : H s.heap.objs.size = none := I.hok.fresh (Nat.le_refl _)
  refine ⟨.ref s.heap.objs.size, upd H s.heap.objs.size (.frz { cls := .type "tuple", data := .seq us.toArray } (.tup xs)), I.laid (t' := t') (fun b u e => Heap.get?_push_of_some _ e) (Nat.le_refl _) ?_, rfl, q _ _ hf rfl⟩
  exact ⟨Heap.get?_push_size _ rfl, hz, us, r, ⟨_, Heap.get?_push_size _ rfl, rfl, _, rfl⟩⟩
def tTupK (t : TA) : TE := fun σ H Q => t σ H fun xs H1 => xs.length ≤ sizeLine ∧ ∀ p o, H1 p = none → o.dict = none → Q (.ref p) (upd H1 p (.frz o (.tup xs)))
theorem pe_tupK {x1 : Nat} {t : TA} (h : PA X es t) : PE X (.Tuple es x1 pos) (tTupK t) := by
  refine ⟨fun pins s σ H Q I hq => ?_⟩
  refine wpAny_Tuple_spliced (thn (h.run pos pins s σ H _ I hq) fun us s1 ⟨xs, H1, I1, r, z, q⟩ => ⟨by rw [← r.length]; exact z, ?_⟩)
  exact tupK_new I1 z r q
def fTup (f : Fn (List Dv)) : Fn Dv := fun env s => (f env s).bind fun ds s1 => Rs.iff (decide (ds.length ≤ 16777216)) (.ok (.tup ds) s1)
/-- what a new tuple brings -/
theorem new_tup {K : PySem.W.Frag} {B : Lo} {H : Hp} {s : Sto} {ds : List Dv} {xs : List V} {Q : VK} (S : Sim K B H s) (r : Rps K B H ds xs)
    (hQ : ∀ (B' : Lo) (H' : Hp) (v : V), Ext B H B' H' → B'.hid = B.hid → Sim K B' H' s → Rp K B' H' (.tup ds) v → Q v H') {p : Addr} {o : Obj} (hp : H p = none) (hd : o.dict = none) : Q (.ref p) (upd H p (.frz o (.tup xs))) :=
  hQ B _ _ (Ext.laid hp) rfl (S.laid hp) (.tup (.inl ⟨o, upd_same, hd⟩) (r.mono (Ext.laid hp).mo))
theorem len_line {n : Nat} (h : n ≤ 16777216) : n ≤ sizeLine := by rw [sizeLine_eq]; exact h
theorem z_tup {x1 : Nat} (h : ZA X es fs) : ZE X (.Tuple es x1 pos) (fTup fs) := by
  refine pe_mono (pe_tupK h) fun σ H Q q => ?_
  obtain ⟨B, env, s, d', s', hE, hS, hf, hQ⟩ := q
  obtain ⟨ds, s1, h1, hf⟩ := Rs.bind_ok hf
  obtain ⟨hz, hf⟩ := Rs.iff_ok hf
  have hz := of_decide_eq_true hz
  cases hf
  refine ⟨B, env, s, _, _, hE, hS, h1, fun B1 H1 xs x1 e1 S1 r1 => ⟨len_line (r1.length ▸ hz), fun p o hp hd => ?_⟩⟩
  exact new_tup S1 r1 (fun B' H' v x e S r => hQ B' H' v (x1.trans x) (e.trans e1) S r) hp hd
theorem new_none {K : PySem.W.Frag} {B B1 B' : Lo} {H H1 H' : Hp} {s : Sto} {p : Addr} (x1 : Ext B H B1 H1) (x : Ext B1 H1 ⟨B'.locs, p :: B'.hid⟩ H') (S : Sim K ⟨B'.locs, p :: B'.hid⟩ H' s) (hn : H1 p = none) : H p = none :=
  x1.was_none hn fun z => (S.hid p List.mem_cons_self).1 (x.mo.pre.subset (x1.mo.pre.subset z))
def fLst (f : Fn (List Dv)) : Fn (List Dv) := fun env s => (f env s).bind fun ds s1 => Rs.iff (decide (ds.length ≤ 16777216)) (.ok ds s1)
/-- what a new list brings -/
theorem new_lst {K : PySem.W.Frag} {B : Lo} {H : Hp} {s : Sto} {ds : List Dv} {xs : List V} {Q : VK} (S : Sim K B H s) (r : Rps K B H ds xs) {p : Addr} (hp : H p = none)
    (hQ : ∀ (B' : Lo) (H' : Hp) (p : Addr) (xs : List V), Ext B H ⟨B'.locs, p :: B'.hid⟩ H' → B'.hid = B.hid → Sim K ⟨B'.locs, p :: B'.hid⟩ H' s → p ∉ B'.hid → H p = none → H' p = some (.lst xs) → Rps K ⟨B'.locs, p :: B'.hid⟩ H' ds xs → Q (.ref p) H') :
    Q (.ref p) (upd H p (.lst xs)) :=
  hQ B _ p xs (Ext.aside hp) rfl (S.aside hp) (S.freeH hp) hp upd_same (r.mono (Ext.aside hp).mo)
theorem z_lst (h : ZA X es fs) : ZL X (.List es pos) (fLst fs) := by
  refine pe_mono (pe_lst h) fun σ H Q q => ?_
  obtain ⟨B, env, s, d', s', hE, hS, hf, hQ⟩ := q
  obtain ⟨ds, s1, h1, hf⟩ := Rs.bind_ok hf
  obtain ⟨hz, hf⟩ := Rs.iff_ok hf
  have hz := of_decide_eq_true hz
  cases hf
  refine ⟨B, env, s, _, _, hE, hS, h1, fun B1 H1 xs x1 e1 S1 r1 => ⟨len_line (r1.length ▸ hz), fun p hp => ?_⟩⟩
  exact new_lst S1 r1 hp fun B' H' p xs x e S hh hn hl r => hQ B' H' p xs (x1.trans x) (e.trans e1) S hh (new_none x1 x S hn) hl r
/-- a new list as a value that nobody changes -/
def fVal (f : Fn (List Dv)) : Fn Dv := fun env s => (f env s).bind fun ds s1 => .ok (.ls ds) s1
theorem z_val {f : Fn (List Dv)} (h : ZL X e f) : ZE X e (fVal f) := by
  refine pe_mono h fun σ H Q q => ?_
  obtain ⟨B, env, s, d', s', hE, hS, hf, hQ⟩ := q
  obtain ⟨ds, s1, h1, hf⟩ := Rs.bind_ok hf
  cases hf
  refine ⟨B, env, s, _, _, hE, hS, h1, fun B1 H1 p xs x1 e1 S1 hh hn hl r1 => ?_⟩
  have S2 := S1.back
  refine hQ ⟨B1.locs, B1.hid⟩ H1 _ (x1.drop fun b hb => by rw [e1]; exact hb) e1 S2 (.ls (.inl ⟨hl, (S1.hid p List.mem_cons_self).1, hh⟩) (r1.mono Mo.back))
/-- .. as a thing of the store -/
def fNew (f : Fn (List Dv)) : Fn Dv := fun env s => (f env s).bind fun ds s1 => .ok (.loc s1.length) (s1 ++ [.lst ds])
theorem z_new {f : Fn (List Dv)} (h : ZL X e f) : ZE X e (fNew f) := by
  refine pe_mono h fun σ H Q q => ?_
  obtain ⟨B, env, s, d', s', hE, hS, hf, hQ⟩ := q
  obtain ⟨ds, s1, h1, hf⟩ := Rs.bind_ok hf
  cases hf
  refine ⟨B, env, s, _, _, hE, hS, h1, fun B1 H1 p xs x1 e1 S1 hh hn hl r1 => ?_⟩
  refine hQ ⟨B1.locs ++ [p], B1.hid⟩ H1 _ (x1.adopt hn fun b hb => by rw [e1]; exact hb) e1 (S1.adopt hh ⟨xs, hl, r1⟩) (.loc ?_)
  rw [← S1.len]
  show (B1.locs ++ [p])[B1.locs.length]? = some p
  rw [List.getElem?_append_right (Nat.le_refl _)]
  simp
end
end Z

namespace Z
open PySem PySem.Spec PyProof.Rows L2

/-! ### operators by data -/
def PostZ (K : PySem.W.Frag) (B : Lo) (H : Hp) (s' : Sto) (d : Dv) (Q : VK) : Prop := ∀ (B' : Lo) (H' : Hp) (v : V), Ext B H B' H' → B'.hid = B.hid → Sim K B' H' s' → Rp K B' H' d v → Q v H'
theorem PostZ.same {K : PySem.W.Frag} {B : Lo} {H : Hp} {s : Sto} {d : Dv} {Q : VK} (h : PostZ K B H s d Q) (S : Sim K B H s) {v : V} (r : Rp K B H d v) : Q v H := h B H v (Ext.refl _ _) rfl S r
def OpZ (K : PySem.W.Frag) (r : R2) (g : Dv → Dv → Sto → Rs Dv) : Prop :=
  ∀ (B : Lo) (H : Hp) (s : Sto) (x y : Dv) (v w : V) (d : Dv) (s' : Sto) (Q : VK), Sim K B H s → Rp K B H x v → Rp K B H y w → g x y s = .ok d s' → PostZ K B H s' d Q → r v w H Q
def fBin (g : Dv → Dv → Sto → Rs Dv) (f1 f2 : Fn Dv) : Fn Dv := fun env s => (f1 env s).bind fun x s1 => (f2 env s1).bind fun y s2 => g x y s2
section
variable {X : Cx} {a b c e : Expr} {es : List Expr} {fa fb fc : Fn Dv} {fs : Fn (List Dv)} {pos : Pos} {g g' : Dv → Dv → Sto → Rs Dv} {r r' : R2}
theorem OpR.or {f : Value → Value → Sem Value} {r r' : R2} (h : OpR X f r) (h' : OpR X f r') : OpR X f (fun x y H Q => r x y H Q ∨ r' x y H Q) := by
  intro pins s σ H x y v u Q I rx ry q
  rcases q with q | q
  · exact h pins s σ H x y v u Q I rx ry q
  · exact h' pins s σ H x y v u Q I rx ry q
theorem bin_to (hg : OpZ X.K r g) : ∀ σ H Q, tOf X.K (fBin g fa fb) σ H Q → tOp r (tOf X.K fa) (tOf X.K fb) σ H Q := fun σ H Q q => by
  obtain ⟨B, env, s, d, s', hE, hS, hf, hQ⟩ := q
  obtain ⟨x, s1, h1, hf⟩ := Rs.bind_ok hf
  obtain ⟨y, s2, h2, hf⟩ := Rs.bind_ok hf
  refine ⟨B, env, s, _, _, hE, hS, h1, fun B1 H1 v x1 e1 S1 r1 => ?_⟩
  refine ⟨B1, env, s1, _, _, hE.mono x1.mo, S1, h2, fun B2 H2 w x2 e2 S2 r2 => ?_⟩
  exact hg B2 H2 s2 x y v w d s' Q S2 (r1.mono x2.mo) r2 hf fun B3 H3 u x3 e3 S3 r3 => hQ B3 H3 u (x1.trans (x2.trans x3)) (e3.trans (e2.trans e1)) S3 r3
theorem z_op {op : Operator} (ho : OpR X (binaryOp op) r) (hg : OpZ X.K r g) (ha : ZE X a fa) (hb : ZE X b fb) : ZE X (.BinOp a op b pos) (fBin g fa fb) := pe_mono (pe_op ho ha hb) (bin_to hg)
theorem z_cmp {op : CmpOp} (ho : OpR X (compareOp op) r) (hg : OpZ X.K r g) (ha : ZE X a fa) (hb : ZE X b fb) (hm : behindInMarks op b = false) : ZE X (.Compare a [op] [b] pos) (fBin g fa fb) := pe_mono (pe_cmpR ho ha hb hm) (bin_to hg)
/-- a truth's truth -/
def fTest (f : Fn Dv) : Fn Bool := fun env s => (f env s).bind fun d s1 => match d with | .bl b => .ok b s1 | _ => .bad
theorem fTest_ok {f : Fn Dv} {env : En} {s s' : Sto} {b : Bool} (h : fTest f env s = .ok b s') : f env s = .ok (.bl b) s' := by
  obtain ⟨d, s1, h1, h⟩ := Rs.bind_ok h
  cases d with
  | bl b' => cases h; exact h1
  | _ => cases h
theorem test_to {t : TE} {f : Fn Dv} (ht : ∀ σ H Q, tOf X.K f σ H Q → t σ H Q) : ∀ σ H Q, tOfT X.K (fTest f) σ H Q → tTest t σ H Q := fun σ H Q q => by
  obtain ⟨B, env, s, b, s', hE, hS, hf, hQ⟩ := q
  refine ht _ _ _ ⟨B, env, s, _, _, hE, hS, fTest_ok hf, fun B1 H1 v x1 e1 S1 r1 => ?_⟩
  cases r1
  exact ⟨b, rfl, hQ B1 H1 x1 e1 S1⟩
theorem z_cmpT {op : CmpOp} (ho : OpR X (compareOp op) r) (hg : OpZ X.K r g) (ha : ZE X a fa) (hb : ZE X b fb) (hm : behindInMarks op b = false) : ZT X (.Compare a [op] [b] pos) (fTest (fBin g fa fb)) :=
  pt_mono (pt_cmpR ho ha hb hm) (test_to (bin_to hg))
theorem z_valT (ha : ZE X a fa) (he : ∀ whole, isTrue a X.env whole = (do let v ← whole; standAt a.pos; holding [v] (truthy v)) := by intro _; rfl) : ZT X a (fTest fa) :=
  pt_mono (pt_val ha he) (test_to fun _ _ _ h => h)
/-- a op b op' c -/
def fChain (g g' : Dv → Dv → Sto → Rs Dv) (f1 f2 f3 : Fn Dv) : Fn Dv := fun env s => (f1 env s).bind fun x s1 => (f2 env s1).bind fun y s2 => (g x y s2).bind fun t s3 => match t with
  | .bl true => (f3 env s3).bind fun z s4 => g' y z s4
  | .bl false => .ok (.bl false) s3
  | _ => .bad
/-! ### and, or, not, if else -/
def fAndT (f g : Fn Bool) : Fn Bool := fun env s => (f env s).bind fun b s1 => if b = true then g env s1 else .ok false s1
def fOrT (f g : Fn Bool) : Fn Bool := fun env s => (f env s).bind fun b s1 => if b = true then .ok true s1 else g env s1
def fNotT (f : Fn Bool) : Fn Bool := fun env s => (f env s).bind fun b s1 => .ok (!b) s1
abbrev ZW (X : Cx) (e : Expr) (f : Fn Bool) : Prop := PW X e (tOfT X.K f)
theorem pw_mono {e : Expr} {t t' : TT} (h : PW X e t) (hh : ∀ σ H Q, t' σ H Q → t σ H Q) : PW X e t' := ⟨fun wh pins s σ H Q I q => h.run wh pins s σ H Q I (hh _ _ _ q)⟩
variable {ta tb : Fn Bool} {rest : List Expr}
theorem w_and1 (ha : ZT X a ta) : ZW X (.BoolOp .And [a] pos) ta := pw_and1 ha
theorem w_or1 (ha : ZT X a ta) : ZW X (.BoolOp .Or [a] pos) ta := pw_or1 ha
theorem w_and (ha : ZT X a ta) (hb : ZW X (.BoolOp .And (b :: rest) pos) tb) : ZW X (.BoolOp .And (a :: b :: rest) pos) (fAndT ta tb) := by
  refine pw_mono (pw_and ha hb) fun σ H Q q => ?_
  obtain ⟨B, env, s, d, s', hE, hS, hf, hQ⟩ := q
  obtain ⟨x, s1, h1, hf⟩ := Rs.bind_ok hf
  refine ⟨B, env, s, _, _, hE, hS, h1, fun B1 H1 x1 e1 S1 => ?_⟩
  split at hf
  · rename_i hx
    rw [if_pos hx]
    exact ⟨B1, env, s1, _, _, hE.mono x1.mo, S1, hf, fun B2 H2 x2 e2 S2 => hQ B2 H2 (x1.trans x2) (e2.trans e1) S2⟩
  · rename_i hx
    rw [if_neg hx]
    cases hf
    exact hQ B1 H1 x1 e1 S1
theorem w_or (ha : ZT X a ta) (hb : ZW X (.BoolOp .Or (b :: rest) pos) tb) : ZW X (.BoolOp .Or (a :: b :: rest) pos) (fOrT ta tb) := by
  refine pw_mono (pw_or ha hb) fun σ H Q q => ?_
  obtain ⟨B, env, s, d, s', hE, hS, hf, hQ⟩ := q
  obtain ⟨x, s1, h1, hf⟩ := Rs.bind_ok hf
  refine ⟨B, env, s, _, _, hE, hS, h1, fun B1 H1 x1 e1 S1 => ?_⟩
  split at hf
  · rename_i hx
    rw [if_pos hx]
    cases hf
    exact hQ B1 H1 x1 e1 S1
  · rename_i hx
    rw [if_neg hx]
    exact ⟨B1, env, s1, _, _, hE.mono x1.mo, S1, hf, fun B2 H2 x2 e2 S2 => hQ B2 H2 (x1.trans x2) (e2.trans e1) S2⟩
theorem z_wT (h : ZW X e ta) : ZT X e ta := h.pt
theorem z_notT (ha : ZT X a ta) : ZT X (.UnaryOp .Not a pos) (fNotT ta) := by
  refine pt_mono (pt_not ha) fun σ H Q q => ?_
  obtain ⟨B, env, s, d, s', hE, hS, hf, hQ⟩ := q
  obtain ⟨x, s1, h1, hf⟩ := Rs.bind_ok hf
  refine ⟨B, env, s, _, _, hE, hS, h1, fun B1 H1 x1 e1 S1 => ?_⟩
  cases hf
  exact hQ B1 H1 x1 e1 S1
def fAnd (f g : Fn Dv) : Fn Dv := fun env s => (fTest f env s).bind fun b s1 => if b = true then g env s1 else .ok (.bl false) s1
def fOr (f g : Fn Dv) : Fn Dv := fun env s => (fTest f env s).bind fun b s1 => if b = true then .ok (.bl true) s1 else g env s1
def fNot (f : Fn Dv) : Fn Dv := fun env s => (fTest f env s).bind fun b s1 => .ok (.bl (!b)) s1
theorem z_one {op} (h : ZE X a fa) : ZE X (.BoolOp op [a] pos) fa := pe_one h
theorem z_and (ha : ZE X a fa) (hb : ZE X (.BoolOp .And (b :: rest) pos) fb) : ZE X (.BoolOp .And (a :: b :: rest) pos) (fAnd fa fb) := by
  refine pe_mono (pe_and ha hb) fun σ H Q q => ?_
  obtain ⟨B, env, s, d, s', hE, hS, hf, hQ⟩ := q
  obtain ⟨x, s1, h1, hf⟩ := Rs.bind_ok hf
  refine ⟨B, env, s, _, _, hE, hS, fTest_ok h1, fun B1 H1 v x1 e1 S1 r1 => ?_⟩
  cases r1
  refine ⟨x, rfl, ?_⟩
  split at hf
  · rename_i hx
    rw [if_pos hx]
    exact ⟨B1, env, s1, _, _, hE.mono x1.mo, S1, hf, fun B2 H2 v x2 e2 S2 r2 => hQ B2 H2 v (x1.trans x2) (e2.trans e1) S2 r2⟩
  · rename_i hx
    rw [if_neg hx]
    cases hf
    exact hQ B1 H1 _ x1 e1 S1 (.bl false)
theorem z_not (ha : ZE X a fa) : ZE X (.UnaryOp .Not a pos) (fNot fa) := by
  refine pe_mono (pe_not ha) fun σ H Q q => ?_
  obtain ⟨B, env, s, d, s', hE, hS, hf, hQ⟩ := q
  obtain ⟨x, s1, h1, hf⟩ := Rs.bind_ok hf
  refine ⟨B, env, s, _, _, hE, hS, fTest_ok h1, fun B1 H1 v x1 e1 S1 r1 => ?_⟩
  cases r1
  cases hf
  exact ⟨x, rfl, hQ B1 H1 _ x1 e1 S1 (.bl _)⟩
def fIf (t : Fn Bool) (f g : Fn Dv) : Fn Dv := fun env s => (t env s).bind fun b s1 => if b = true then f env s1 else g env s1
theorem z_if (hc : ZT X c ta) (ha : ZE X a fa) (hb : ZE X b fb) : ZE X (.IfExp c a b pos) (fIf ta fa fb) := by
  refine pe_mono (pe_ifExp hc ha hb) fun σ H Q q => ?_
  obtain ⟨B, env, s, d, s', hE, hS, hf, hQ⟩ := q
  obtain ⟨x, s1, h1, hf⟩ := Rs.bind_ok hf
  refine ⟨B, env, s, _, _, hE, hS, h1, fun B1 H1 x1 e1 S1 => ?_⟩
  split at hf
  · rename_i hx
    rw [if_pos hx]
    exact ⟨B1, env, s1, _, _, hE.mono x1.mo, S1, hf, fun B2 H2 v x2 e2 S2 r2 => hQ B2 H2 v (x1.trans x2) (e2.trans e1) S2 r2⟩
  · rename_i hx
    rw [if_neg hx]
    exact ⟨B1, env, s1, _, _, hE.mono x1.mo, S1, hf, fun B2 H2 v x2 e2 S2 r2 => hQ B2 H2 v (x1.trans x2) (e2.trans e1) S2 r2⟩
/-- one thing in, by its rule -/
def UnZ (K : PySem.W.Frag) (r : V → Hp → VK → Prop) (g : Dv → Sto → Rs Dv) : Prop :=
  ∀ (B : Lo) (H : Hp) (s : Sto) (x : Dv) (v : V) (d : Dv) (s' : Sto) (Q : VK), Sim K B H s → Rp K B H x v → g x s = .ok d s' → PostZ K B H s' d Q → r v H Q
def fUn (g : Dv → Sto → Rs Dv) (f : Fn Dv) : Fn Dv := fun env s => (f env s).bind fun x s1 => g x s1
end

/-! ### the operators themselves -/
def gI (g : Int → Int → Dv) : Dv → Dv → Sto → Rs Dv := fun x y s => match x, y with | .int i, .int j => .ok (g i j) s | _, _ => .bad
def gIc (c : Int → Int → Bool) (g : Int → Int → Dv) : Dv → Dv → Sto → Rs Dv := fun x y s => match x, y with | .int i, .int j => Rs.iff (c i j) (.ok (g i j) s) | _, _ => .bad
theorem gI_ok {g : Int → Int → Dv} {x y d : Dv} {s s' : Sto} (h : gI g x y s = .ok d s') : ∃ i j, x = .int i ∧ y = .int j ∧ d = g i j ∧ s' = s := by
  unfold gI at h
  split at h
  · cases h; exact ⟨_, _, rfl, rfl, rfl, rfl⟩
  · cases h
theorem gIc_ok {c : Int → Int → Bool} {g : Int → Int → Dv} {x y d : Dv} {s s' : Sto} (h : gIc c g x y s = .ok d s') : ∃ i j, x = .int i ∧ y = .int j ∧ c i j = true ∧ d = g i j ∧ s' = s := by
  unfold gIc at h
  split at h
  · obtain ⟨h1, h2⟩ := Rs.iff_ok h
    cases h2; exact ⟨_, _, rfl, rfl, h1, rfl, rfl⟩
  · cases h
section
variable {K : PySem.W.Frag}
theorem oz_int {f : Int → Int → Int} : OpZ K (rI0 fun i j => .int (f i j)) (gI fun i j => .int (f i j)) := by
  intro B H s x y v w d s' Q S rx ry h q
  obtain ⟨i, j, rfl, rfl, rfl, rfl⟩ := gI_ok h
  cases rx; cases ry
  exact ⟨i, j, rfl, rfl, q.same S (.int _)⟩
theorem oz_intC {C : Int → Int → Prop} {c : Int → Int → Bool} {f : Int → Int → Int} (hc : ∀ i j, c i j = true → C i j) : OpZ K (rI C fun i j => .int (f i j)) (gIc c fun i j => .int (f i j)) := by
  intro B H s x y v w d s' Q S rx ry h q
  obtain ⟨i, j, rfl, rfl, hcc, rfl, rfl⟩ := gIc_ok h
  cases rx; cases ry
  exact ⟨i, j, rfl, rfl, hc _ _ hcc, q.same S (.int _)⟩
def cDiv (_ j : Int) : Bool := decide (0 < j) && decide (j < 2 ^ 64)
def cMod (_ j : Int) : Bool := decide (0 < j)
def cPow (i j : Int) : Bool := decide (0 ≤ j) && decide (j ≤ 1000000) && decide (-(2 ^ 64) < i) && decide (i < 2 ^ 64)
def cMul (i j : Int) : Bool := (decide (-(2 ^ 64) < i) && decide (i < 2 ^ 64)) || (decide (-(2 ^ 64) < j) && decide (j < 2 ^ 64))
theorem cDiv_ok (i j : Int) (h : cDiv i j = true) : CDivW i j := by
  unfold cDiv at h
  simp only [Bool.and_eq_true, decide_eq_true_eq] at h
  exact wide_div (b := 64) h.1 (by omega) (by decide) (by decide)
theorem cMod_ok (i j : Int) (h : cMod i j = true) : 0 < j := of_decide_eq_true h
theorem cPow_ok (i j : Int) (h : cPow i j = true) : CPow i j := by
  unfold cPow at h
  simp only [Bool.and_eq_true, decide_eq_true_eq] at h
  exact ⟨h.1.1.1, h.1.1.2, by omega⟩
theorem cMul_ok (i j : Int) (h : cMul i j = true) : CMul i j := by
  unfold cMul at h
  simp only [Bool.or_eq_true, Bool.and_eq_true, decide_eq_true_eq] at h
  exact h
/-- + of ints, texts, tuples -/
def gAdd (x y : Dv) (s : Sto) : Rs Dv := match x, y with
  | .int i, .int j => .ok (.int (i + j)) s
  | .str a, .str b => Rs.iff (decide (a.length + b.length ≤ 16777216)) (.ok (.str (a ++ b)) s)
  | .tup a, .tup b => Rs.iff (decide (a.length + b.length ≤ 16777216)) (.ok (.tup (a ++ b)) s)
  | _, _ => .bad
def rCatZ (K : PySem.W.Frag) : R2 := fun x y H Q => ∃ a b xs ys, x = .ref a ∧ y = .ref b ∧ SqT K H a xs ∧ SqT K H b ys ∧ xs.length + ys.length ≤ sizeLine ∧
  (xs = [] → Q (.ref b) H) ∧ (xs ≠ [] → ys = [] → Q (.ref a) H) ∧ (xs ≠ [] → ys ≠ [] → ∀ p o, H p = none → o.dict = none → Q (.ref p) (upd H p (.frz o (.tup (xs ++ ys)))))
theorem op_catZ {X : Cx} : OpR X (binaryOp .Add) (rCatZ X.K) := by
  intro pins s σ H x y v u Q I rx ry h
  obtain ⟨a, b, xs, ys, rfl, rfl, ha, hb, hz, q0, q1, q2⟩ := h
  cases rx
  cases ry
  obtain ⟨its, r1, p1, _⟩ := I.tuple ha
  obtain ⟨its2, r2, p2, _⟩ := I.tuple hb
  by_cases hx : xs = []
  · subst hx
    cases r1
    exact L2.cat_tup0 p1 p2 ⟨.ref b, H, I, rfl, q0 rfl⟩
  · refine HT.cat_tup p1 p2 (fun z => hx (r1.nil_iff.mp z)) (fun z => ⟨.ref a, H, I, rfl, q1 hx (r2.nil_iff.mp z)⟩) (fun z => ?_) (by rw [← r1.length, ← r2.length]; exact hz)
    exact tupK_new I (by rw [List.length_append]; exact hz) (r1.append r2) (q2 hx fun w => z (r2.nil_iff.mpr w))
def rAddZ (K : PySem.W.Frag) : R2 := fun x y H Q => ((rI0 (fun i j => .int (i + j)) x y H Q) ∨ (∃ i j : Str, x = .str i ∧ y = .str j ∧ i.length + j.length ≤ sizeLine ∧ Q (.str (i ++ j)) H)) ∨ rCatZ K x y H Q
theorem op_addZ {X : Cx} : OpR X (binaryOp .Add) (rAddZ X.K) := OpR.or (OpR.or op_add op_add_str) op_catZ
theorem oz_add : OpZ K (rAddZ K) gAdd := by
  intro B H s x y v w d s' Q S rx ry h q
  unfold gAdd at h
  split at h
  · cases h
    cases rx; cases ry
    exact .inl (.inl ⟨_, _, rfl, rfl, q.same S (.int _)⟩)
  · obtain ⟨hz, h⟩ := Rs.iff_ok h
    cases h
    cases rx; cases ry
    exact .inl (.inr ⟨_, _, rfl, rfl, len_line (of_decide_eq_true hz), q.same S (.str _)⟩)
  · obtain ⟨hz, h⟩ := Rs.iff_ok h
    cases h
    cases rx with
    | tup h1 r1 =>
      cases ry with
      | tup h2 r2 =>
        rename_i a xs b ys
        refine .inr ⟨_, _, _, _, rfl, rfl, h1.sq, h2.sq, len_line (by rw [← r1.length, ← r2.length]; exact of_decide_eq_true hz), fun e => ?_, fun _ e => ?_, fun _ _ p o hp hd => ?_⟩
        · subst e
          cases r1
          exact q.same S (.tup h2 r2)
        · subst e
          cases r2
          refine q.same S (.tup h1 ?_)
          rw [List.append_nil]; exact r1
        · exact new_tup S (r1.append r2) q hp hd
  · cases h
/-- * of ints, of a tuple and an int -/
def gMul (x y : Dv) (s : Sto) : Rs Dv := match x, y with
  | .int i, .int j => Rs.iff (cMul i j) (.ok (.int (i * j)) s)
  | _, _ => .bad
theorem oz_mul : OpZ K (rI CMul fun i j => .int (i * j)) gMul := oz_intC (c := cMul) (f := fun i j => i * j) cMul_ok
end
section
variable {G : Gz} {bs : List Str} {k : Nat} {X : Cx} {N : List Str} {nm : List (Str × NameKind)} {ow : Str → Bool} {a b c e : Expr} {fa fb fc : Fn Dv} {pos : Pos}
def gSub := gI fun i j => .int (i - j)
def gDiv := gIc cDiv fun i j => .int (i / j)
def gMod := gIc cMod fun i j => .int (i % j)
def gPow := gIc cPow fun i j => .int (i ^ j.toNat)
theorem z_add (ha : ZE X a fa) (hb : ZE X b fb) : ZE X (.BinOp a .Add b pos) (fBin gAdd fa fb) := z_op op_addZ oz_add ha hb
theorem z_sub (ha : ZE X a fa) (hb : ZE X b fb) : ZE X (.BinOp a .Sub b pos) (fBin gSub fa fb) := z_op op_sub oz_int ha hb
theorem z_mul (ha : ZE X a fa) (hb : ZE X b fb) : ZE X (.BinOp a .Mult b pos) (fBin gMul fa fb) := z_op op_mul oz_mul ha hb
theorem z_div (ha : ZE X a fa) (hb : ZE X b fb) : ZE X (.BinOp a .FloorDiv b pos) (fBin gDiv fa fb) := z_op op_fdivW (oz_intC cDiv_ok) ha hb
theorem z_mod (ha : ZE X a fa) (hb : ZE X b fb) : ZE X (.BinOp a .Mod b pos) (fBin gMod fa fb) := z_op op_mod (oz_intC cMod_ok) ha hb
theorem z_pow (ha : ZE X a fa) (hb : ZE X b fb) : ZE X (.BinOp a .Pow b pos) (fBin gPow fa fb) := z_op op_pow (oz_intC cPow_ok) ha hb
def gNeg (x : Dv) (s : Sto) : Rs Dv := match x with | .int i => .ok (.int (-i)) s | _ => .bad
end
end Z

namespace Z
open PySem PySem.Spec PyProof.Rows L2

/-! ### data of any depth -/
def py (s : Sto) : Nat → Dv → Option PyData
  | 0, _ => none
  | k + 1, d => match d with
    | .non => some .none
    | .bl b => some (.bool b)
    | .int i => some (.int i)
    | .str x => some (.str x)
    | .tup ds => (ds.mapM (py s k)).map .tuple
    | .ls ds => (ds.mapM (py s k)).map .list
    | .xn .. => none
    | .loc n => match s[n]? with
      | some (.lst ds) => (ds.mapM (py s k)).map .list
      | _ => none
abbrev pyOf (s : Sto) (d : Dv) : Option PyData := py s 40 d
theorem mapM_cons_some {α β : Type} {f : α → Option β} {a : α} {l : List α} {ys : List β} (h : (a :: l).mapM f = some ys) : ∃ y r, f a = some y ∧ l.mapM f = some r ∧ ys = y :: r := by
  rw [List.mapM_cons] at h
  cases e : f a with
  | none => rw [e] at h; cases h
  | some y =>
    rw [e] at h
    cases e2 : l.mapM f with
    | none => simp [e2] at h
    | some r => simp [e2] at h; exact ⟨y, r, rfl, rfl, h.symm⟩
section
variable {K : PySem.W.Frag} {B : Lo} {H : Hp} {s : Sto}
theorem dpAll_of {f : Dv → Option PyData} (hf : ∀ d v p, Rp K B H d v → f d = some p → Dp K H v p) : ∀ {ds : List Dv} {vs : List V} {ps : List PyData}, Rps K B H ds vs → ds.mapM f = some ps → DpAll K H vs ps
  | _, _, _, .nil, h => by simp at h; subst h; exact .nil
  | _, _, _, .cons h r, e => by
    obtain ⟨y, t, h1, h2, rfl⟩ := mapM_cons_some e
    exact .cons (hf _ _ _ h h1) (dpAll_of hf r h2)
theorem dp_of (S : Sim K B H s) : ∀ (k : Nat) (d : Dv) (v : V) (p : PyData), Rp K B H d v → py s k d = some p → Dp K H v p
  | 0, _, _, _, _, h => by cases h
  | k + 1, d, v, p, r, h => by
    cases r with
    | non => cases h; exact .non
    | bl b => cases h; exact .bl b
    | int i => cases h; exact .int i
    | str x => cases h; exact .str x
    | tup h1 h2 =>
      obtain ⟨ps, h3, rfl⟩ := Option.map_eq_some_iff.mp h
      exact .tup h1.sq (dpAll_of (dp_of S k) h2 h3)
    | ls h1 h2 =>
      obtain ⟨ps, h3, rfl⟩ := Option.map_eq_some_iff.mp h
      exact .lst h1.sq (dpAll_of (dp_of S k) h2 h3)
    | xn => cases h
    | loc h1 =>
      rename_i n a
      obtain ⟨o, ho, ro⟩ := S.at h1
      have h' : (match s[n]? with | some (.lst ds) => (ds.mapM (py s k)).map .list | _ => none) = some p := h
      rw [ho] at h'
      cases o with
      | lst ds =>
        obtain ⟨xs, e1, e2⟩ := ro
        obtain ⟨ps, h3, rfl⟩ := Option.map_eq_some_iff.mp h'
        exact .lst (.of e1) (dpAll_of (dp_of S k) e2 h3)
      | _ => cases h'
end

/-! ### comparisons -/
def gEq (x y : Dv) (s : Sto) : Rs Dv := match x, y with
  | .int i, .int j => .ok (.bl (i == j)) s
  | .str i, .str j => .ok (.bl (i == j)) s
  | .bl i, .bl j => .ok (.bl (i == j)) s
  | .non, .non => .ok (.bl true) s
  | x, y => match pyOf s x, pyOf s y with
    | some p, some q => Rs.iff (SeqAt.shaped p && SeqAt.shaped q) (.ok (.bl (PyData.eqv p q)) s)
    | _, _ => .bad
def gNot (g : Dv → Dv → Sto → Rs Dv) : Dv → Dv → Sto → Rs Dv := fun x y s => (g x y s).bind fun d s1 => match d with | .bl b => .ok (.bl (!b)) s1 | _ => .bad
def gNe := gNot gEq
def rEqZ (K : PySem.W.Frag) : R2 := fun x y H Q => rEq x y H Q ∨ rEqD K x y H Q
def rNeZ (K : PySem.W.Frag) : R2 := fun x y H Q => rNe x y H Q ∨ rNeD K x y H Q
theorem gEq_cases {x y d : Dv} {s s' : Sto} (h : gEq x y s = .ok d s') : s' = s ∧ ((∃ i j, x = .int i ∧ y = .int j ∧ d = .bl (i == j)) ∨ (∃ i j, x = .str i ∧ y = .str j ∧ d = .bl (i == j)) ∨ (∃ i j, x = .bl i ∧ y = .bl j ∧ d = .bl (i == j)) ∨ (x = .non ∧ y = .non ∧ d = .bl true) ∨
    ∃ p q, pyOf s x = some p ∧ pyOf s y = some q ∧ SeqAt.shaped p = true ∧ SeqAt.shaped q = true ∧ d = .bl (PyData.eqv p q)) := by
  unfold gEq at h
  split at h
  · cases h; exact ⟨rfl, .inl ⟨_, _, rfl, rfl, rfl⟩⟩
  · cases h; exact ⟨rfl, .inr (.inl ⟨_, _, rfl, rfl, rfl⟩)⟩
  · cases h; exact ⟨rfl, .inr (.inr (.inl ⟨_, _, rfl, rfl, rfl⟩))⟩
  · cases h; exact ⟨rfl, .inr (.inr (.inr (.inl ⟨rfl, rfl, rfl⟩)))⟩
  · split at h
    · rename_i e1 e2
      obtain ⟨h1, h2⟩ := Rs.iff_ok h
      rw [Bool.and_eq_true] at h1
      cases h2
      exact ⟨rfl, .inr (.inr (.inr (.inr ⟨_, _, e1, e2, h1.1, h1.2, rfl⟩)))⟩
    · cases h
theorem oz_eq {K : PySem.W.Frag} : OpZ K (rEqZ K) gEq := by
  intro B H s x y v w d s' Q S rx ry h q
  obtain ⟨rfl, h⟩ := gEq_cases h
  rcases h with ⟨i, j, rfl, rfl, rfl⟩ | ⟨i, j, rfl, rfl, rfl⟩ | ⟨i, j, rfl, rfl, rfl⟩ | ⟨rfl, rfl, rfl⟩ | ⟨p, t, h1, h2, h3, h4, rfl⟩
  · cases rx; cases ry
    refine .inl ⟨rfl, ?_⟩
    rw [dec_int]; exact q.same S (.bl _)
  · cases rx; cases ry
    refine .inl ⟨rfl, ?_⟩
    rw [dec_str]; exact q.same S (.bl _)
  · cases rx; cases ry
    refine .inl ⟨rfl, ?_⟩
    rw [dec_bl]; exact q.same S (.bl _)
  · cases rx; cases ry
    exact .inl ⟨rfl, q.same S (.bl _)⟩
  · exact .inr ⟨p, t, dp_of S _ _ _ _ rx h1, dp_of S _ _ _ _ ry h2, h3, h4, q.same S (.bl _)⟩
theorem oz_ne {K : PySem.W.Frag} : OpZ K (rNeZ K) gNe := by
  intro B H s x y v w d s' Q S rx ry h q
  obtain ⟨b, s1, h, h5⟩ := Rs.bind_ok h
  obtain ⟨rfl, h⟩ := gEq_cases h
  rcases h with ⟨i, j, rfl, rfl, rfl⟩ | ⟨i, j, rfl, rfl, rfl⟩ | ⟨i, j, rfl, rfl, rfl⟩ | ⟨rfl, rfl, rfl⟩ | ⟨p, t, h1, h2, h3, h4, rfl⟩
  · cases rx; cases ry; cases h5
    refine .inl ⟨rfl, ?_⟩
    rw [dec_int]; exact q.same S (.bl _)
  · cases rx; cases ry; cases h5
    refine .inl ⟨rfl, ?_⟩
    rw [dec_str]; exact q.same S (.bl _)
  · cases rx; cases ry; cases h5
    refine .inl ⟨rfl, ?_⟩
    rw [dec_bl]; exact q.same S (.bl _)
  · cases rx; cases ry; cases h5
    exact .inl ⟨rfl, q.same S (.bl _)⟩
  · cases h5
    exact .inr ⟨p, t, dp_of S _ _ _ _ rx h1, dp_of S _ _ _ _ ry h2, h3, h4, q.same S (.bl _)⟩
/-- order of ints, of texts -/
def gOrd (f : Int → Int → Bool) (h : Str → Str → Bool) (x y : Dv) (s : Sto) : Rs Dv := match x, y with
  | .int i, .int j => .ok (.bl (f i j)) s
  | .str i, .str j => .ok (.bl (h i j)) s
  | _, _ => .bad
def strLt (i j : Str) : Bool := decide (i.cps.toList < j.cps.toList)
def rOrd (f : Int → Int → Bool) (h : Str → Str → Bool) : R2 := fun x y H Q => rI0 (fun i j => .bl (f i j)) x y H Q ∨ ∃ i j, x = .str i ∧ y = .str j ∧ Q (.bl (h i j)) H
theorem oz_ord {K : PySem.W.Frag} {f : Int → Int → Bool} {g : Str → Str → Bool} : OpZ K (rOrd f g) (gOrd f g) := by
  intro B H s x y v w d s' Q S rx ry h q
  unfold gOrd at h
  split at h
  · cases h; cases rx; cases ry
    exact .inl ⟨_, _, rfl, rfl, q.same S (.bl _)⟩
  · cases h; cases rx; cases ry
    exact .inr ⟨_, _, rfl, rfl, q.same S (.bl _)⟩
  · cases h
def gLt := gOrd (fun i j => decide (i < j)) strLt
def gLe := gOrd (fun i j => decide (i ≤ j)) (fun i j => !strLt j i)
def gGt := gOrd (fun i j => decide (j < i)) (fun i j => strLt j i)
def gGe := gOrd (fun i j => decide (j ≤ i)) (fun i j => !strLt i j)
section
variable {X : Cx}
theorem or_lt : OpR X (compareOp .Lt) (rOrd (fun i j => decide (i < j)) strLt) := OpR.or op_lt op_lt_str
theorem or_gt : OpR X (compareOp .Gt) (rOrd (fun i j => decide (j < i)) (fun i j => strLt j i)) := OpR.or op_gt op_gt_str
theorem or_ge : OpR X (compareOp .GtE) (rOrd (fun i j => decide (j ≤ i)) (fun i j => !strLt i j)) := OpR.or op_ge op_ge_str
end
/-- is, is not: None, truths -/
def gIs (x y : Dv) (s : Sto) : Rs Dv := match x, y with
  | .bl i, .bl j => .ok (.bl (i == j)) s
  | .non, .non => .ok (.bl true) s
  | _, .non => .ok (.bl false) s
  | _, _ => .bad
def gIsNot := gNot gIs
end Z

namespace Z
open PySem PySem.Spec PyProof.Rows L2
def rIsZ : R2 := fun x y H Q => (y = .non ∧ Q (.bl (decide (x = .non))) H) ∨ rIsB x y H Q
def rIsNotZ : R2 := fun x y H Q => (y = .non ∧ Q (.bl (!decide (x = .non))) H) ∨ rNotB x y H Q
theorem gIs_cases {x y d : Dv} {s s' : Sto} (h : gIs x y s = .ok d s') : s' = s ∧ ((∃ i j, x = .bl i ∧ y = .bl j ∧ d = .bl (i == j)) ∨ (x = .non ∧ y = .non ∧ d = .bl true) ∨ (x ≠ .non ∧ y = .non ∧ d = .bl false)) := by
  unfold gIs at h
  split at h
  · cases h; exact ⟨rfl, .inl ⟨_, _, rfl, rfl, rfl⟩⟩
  · cases h; exact ⟨rfl, .inr (.inl ⟨rfl, rfl, rfl⟩)⟩
  · rename_i hn
    cases h; exact ⟨rfl, .inr (.inr ⟨hn, rfl, rfl⟩)⟩
  · cases h
theorem rp_non {K : PySem.W.Frag} {B : Lo} {H : Hp} {d : Dv} {v : V} (r : Rp K B H d v) : v = .non ↔ d = .non := by
  cases r <;> simp
theorem oz_is {K : PySem.W.Frag} : OpZ K rIsZ gIs := by
  intro B H s x y v w d s' Q S rx ry h q
  replace h := gIs_cases h
  obtain ⟨rfl, h⟩ := h
  rcases h with ⟨i, j, rfl, rfl, rfl⟩ | ⟨rfl, rfl, rfl⟩ | ⟨hx, rfl, rfl⟩
  · cases rx; cases ry
    refine .inr ⟨i, j, rfl, rfl, ?_⟩
    rw [show decide (i = j) = (i == j) by cases i <;> cases j <;> rfl]; exact q.same S (.bl _)
  · cases rx; cases ry
    exact .inl ⟨rfl, q.same S (.bl _)⟩
  · cases ry
    refine .inl ⟨rfl, ?_⟩
    rw [decide_eq_false fun e => hx ((rp_non rx).mp e)]; exact q.same S (.bl _)
theorem oz_isnot {K : PySem.W.Frag} : OpZ K rIsNotZ gIsNot := by
  intro B H s x y v w d s' Q S rx ry h q
  replace h := Rs.bind_ok h
  obtain ⟨b, s1, h, h5⟩ := h
  replace h := gIs_cases h
  obtain ⟨rfl, h⟩ := h
  rcases h with ⟨i, j, rfl, rfl, rfl⟩ | ⟨rfl, rfl, rfl⟩ | ⟨hx, rfl, rfl⟩
  · cases rx; cases ry; cases h5
    refine .inr ⟨i, j, rfl, rfl, ?_⟩
    rw [show decide (i = j) = (i == j) by cases i <;> cases j <;> rfl]; exact q.same S (.bl _)
  · cases rx; cases ry; cases h5
    exact .inl ⟨rfl, q.same S (.bl _)⟩
  · cases ry; cases h5
    refine .inl ⟨rfl, ?_⟩
    rw [decide_eq_false fun e => hx ((rp_non rx).mp e)]; exact q.same S (.bl _)

/-! ### sequences -/
/-- what a list or a tuple holds -/
def seqOf (s : Sto) : Dv → Option (List Dv)
  | .tup ds => some ds
  | .ls ds => some ds
  | .loc n => match s[n]? with
    | some (.lst ds) => some ds
    | _ => none
  | _ => none
theorem seq_of {K : PySem.W.Frag} {B : Lo} {H : Hp} {s : Sto} (S : Sim K B H s) {d : Dv} {v : V} {ds : List Dv} (r : Rp K B H d v) (h : seqOf s d = some ds) : ∃ a xs, v = .ref a ∧ (SqL K H a xs ∨ SqT K H a xs) ∧ Rps K B H ds xs := by
  cases r with
  | tup h1 h2 => cases h; exact ⟨_, _, rfl, .inr h1.sq, h2⟩
  | ls h1 h2 => cases h; exact ⟨_, _, rfl, .inl h1.sq, h2⟩
  | loc h1 =>
    rename_i n a
    obtain ⟨o, ho, ro⟩ := S.at h1
    have h' : (match s[n]? with | some (.lst ds) => some ds | _ => none) = some ds := h
    rw [ho] at h'
    cases o with
    | lst es =>
      cases h'
      obtain ⟨xs, e1, e2⟩ := ro
      exact ⟨_, xs, rfl, .inl (.of e1), e2⟩
    | _ => cases h'
  | _ => cases h
/-- flat things -/
def fV : Dv → Option V
  | .non => some .non
  | .bl b => some (.bl b)
  | .int i => some (.int i)
  | .str x => some (.str x)
  | _ => none
theorem fV_of {K : PySem.W.Frag} {B : Lo} {H : Hp} {d : Dv} {v u : V} (r : Rp K B H d v) (h : fV d = some u) : v = u ∧ flatV u = true := by
  cases r <;> cases h <;> exact ⟨rfl, rfl⟩
theorem fVs_of {K : PySem.W.Frag} {B : Lo} {H : Hp} : ∀ {ds : List Dv} {vs us : List V}, Rps K B H ds vs → ds.mapM fV = some us → vs = us ∧ us.all flatV = true
  | _, _, _, .nil, h => by simp at h; subst h; exact ⟨rfl, rfl⟩
  | _, _, _, .cons r rr, h => by
    obtain ⟨y, t, h1, h2, rfl⟩ := mapM_cons_some h
    obtain ⟨rfl, e1⟩ := fV_of r h1
    obtain ⟨rfl, e2⟩ := fVs_of rr h2
    exact ⟨rfl, by simp [e1, e2]⟩
def gIn (x y : Dv) (s : Sto) : Rs Dv := match x, y with
  | .str a, .str b => .ok (.bl (!(Builtin.Str.occurrences b a 0 b.length 1).isEmpty)) s
  | x, y => match fV x, (seqOf s y).bind (·.mapM fV) with
    | some v, some vs => .ok (.bl (inV v vs)) s
    | _, _ => .bad
def gNotIn := gNot gIn
theorem gIn_cases {x y d : Dv} {s s' : Sto} (h : gIn x y s = .ok d s') : s' = s ∧ ((∃ a b, x = .str a ∧ y = .str b ∧ d = .bl (!(Builtin.Str.occurrences b a 0 b.length 1).isEmpty)) ∨
    ∃ v ds vs, fV x = some v ∧ seqOf s y = some ds ∧ ds.mapM fV = some vs ∧ d = .bl (inV v vs)) := by
  unfold gIn at h
  split at h
  · cases h; exact ⟨rfl, .inl ⟨_, _, rfl, rfl, rfl⟩⟩
  · split at h
    · rename_i v vs e1 e2
      obtain ⟨ds, e3, e4⟩ := Option.bind_eq_some_iff.mp e2
      cases h; exact ⟨rfl, .inr ⟨v, ds, vs, e1, e3, e4, rfl⟩⟩
    · cases h
def rInZ (K : PySem.W.Frag) : R2 := fun x y H Q => (∃ i j, x = .str i ∧ y = .str j ∧ Q (.bl (!(Builtin.Str.occurrences j i 0 j.length 1).isEmpty)) H) ∨ rIn K false x y H Q
def rNotInZ (K : PySem.W.Frag) : R2 := fun x y H Q => (∃ i j, x = .str i ∧ y = .str j ∧ Q (.bl (!(!(Builtin.Str.occurrences j i 0 j.length 1).isEmpty))) H) ∨ rIn K true x y H Q
theorem oz_in {K : PySem.W.Frag} : OpZ K (rInZ K) gIn := by
  intro B H s x y v w d s' Q S rx ry h q
  obtain ⟨rfl, h⟩ := gIn_cases h
  rcases h with ⟨a, b, rfl, rfl, rfl⟩ | ⟨u, ds, vs, h1, h2, h3, rfl⟩
  · cases rx; cases ry
    exact .inl ⟨a, b, rfl, rfl, q.same S (.bl _)⟩
  · obtain ⟨rfl, f1⟩ := fV_of rx h1
    obtain ⟨p, xs, rfl, hq, rr⟩ := seq_of S ry h2
    obtain ⟨rfl, f2⟩ := fVs_of rr h3
    exact .inr ⟨p, xs, rfl, hq, f1, f2, q.same S (.bl _)⟩
theorem oz_notin {K : PySem.W.Frag} : OpZ K (rNotInZ K) gNotIn := by
  intro B H s x y v w d s' Q S rx ry h q
  obtain ⟨b, s1, h, h5⟩ := Rs.bind_ok h
  obtain ⟨rfl, h⟩ := gIn_cases h
  rcases h with ⟨a, b, rfl, rfl, rfl⟩ | ⟨u, ds, vs, h1, h2, h3, rfl⟩
  · cases rx; cases ry; cases h5
    exact .inl ⟨a, b, rfl, rfl, q.same S (.bl _)⟩
  · cases h5
    obtain ⟨rfl, f1⟩ := fV_of rx h1
    obtain ⟨p, xs, rfl, hq, rr⟩ := seq_of S ry h2
    obtain ⟨rfl, f2⟩ := fVs_of rr h3
    exact .inr ⟨p, xs, rfl, hq, f1, f2, q.same S (.bl _)⟩
section
variable {G : Gz} {bs : List Str} {k : Nat} {X : Cx} {N : List Str} {nm : List (Str × NameKind)} {ow : Str → Bool} {a b c e : Expr} {fa fb fc : Fn Dv} {pos : Pos}
theorem z_eq (c : Cz G bs k X N nm ow) (ha : ZE X a fa) (hb : ZE X b fb) : ZE X (.Compare a [.Eq] [b] pos) (fBin gEq fa fb) := z_cmp (OpR.or op_eq (op_eqD c.un)) oz_eq ha hb (nomark _)
theorem z_lt (c : Cz G bs k X N nm ow) (ha : ZE X a fa) (hb : ZE X b fb) : ZE X (.Compare a [.Lt] [b] pos) (fBin gLt fa fb) := z_cmp or_lt oz_ord ha hb (nomark _)
theorem z_gt (c : Cz G bs k X N nm ow) (ha : ZE X a fa) (hb : ZE X b fb) : ZE X (.Compare a [.Gt] [b] pos) (fBin gGt fa fb) := z_cmp or_gt oz_ord ha hb (nomark _)
theorem z_is (c : Cz G bs k X N nm ow) (ha : ZE X a fa) (hb : ZE X b fb) : ZE X (.Compare a [.Is] [b] pos) (fBin gIs fa fb) := z_cmp (OpR.or op_isN op_isBl) oz_is ha hb (nomark _)
theorem z_in (c : Cz G bs k X N nm ow) (ha : ZE X a fa) (hb : ZE X b fb) (hm : behindInMarks .In b = false := by rfl) : ZE X (.Compare a [.In] [b] pos) (fBin gIn fa fb) := z_cmp (OpR.or op_in_str op_in_seq) oz_in ha hb hm
theorem z_eqT (c : Cz G bs k X N nm ow) (ha : ZE X a fa) (hb : ZE X b fb) : ZT X (.Compare a [.Eq] [b] pos) (fTest (fBin gEq fa fb)) := z_cmpT (OpR.or op_eq (op_eqD c.un)) oz_eq ha hb (nomark _)
theorem z_neT (c : Cz G bs k X N nm ow) (ha : ZE X a fa) (hb : ZE X b fb) : ZT X (.Compare a [.NotEq] [b] pos) (fTest (fBin gNe fa fb)) := z_cmpT (OpR.or op_ne (op_neD c.un)) oz_ne ha hb (nomark _)
theorem z_ltT (c : Cz G bs k X N nm ow) (ha : ZE X a fa) (hb : ZE X b fb) : ZT X (.Compare a [.Lt] [b] pos) (fTest (fBin gLt fa fb)) := z_cmpT or_lt oz_ord ha hb (nomark _)
theorem z_gtT (c : Cz G bs k X N nm ow) (ha : ZE X a fa) (hb : ZE X b fb) : ZT X (.Compare a [.Gt] [b] pos) (fTest (fBin gGt fa fb)) := z_cmpT or_gt oz_ord ha hb (nomark _)
theorem z_geT (c : Cz G bs k X N nm ow) (ha : ZE X a fa) (hb : ZE X b fb) : ZT X (.Compare a [.GtE] [b] pos) (fTest (fBin gGe fa fb)) := z_cmpT or_ge oz_ord ha hb (nomark _)
theorem z_isT (c : Cz G bs k X N nm ow) (ha : ZE X a fa) (hb : ZE X b fb) : ZT X (.Compare a [.Is] [b] pos) (fTest (fBin gIs fa fb)) := z_cmpT (OpR.or op_isN op_isBl) oz_is ha hb (nomark _)
theorem z_isnotT (c : Cz G bs k X N nm ow) (ha : ZE X a fa) (hb : ZE X b fb) : ZT X (.Compare a [.IsNot] [b] pos) (fTest (fBin gIsNot fa fb)) := z_cmpT (OpR.or op_notN op_notBl) oz_isnot ha hb (nomark _)
theorem z_inT (c : Cz G bs k X N nm ow) (ha : ZE X a fa) (hb : ZE X b fb) (hm : behindInMarks .In b = false := by rfl) : ZT X (.Compare a [.In] [b] pos) (fTest (fBin gIn fa fb)) := z_cmpT (OpR.or op_in_str op_in_seq) oz_in ha hb hm
theorem z_notinT (c : Cz G bs k X N nm ow) (ha : ZE X a fa) (hb : ZE X b fb) (hm : behindInMarks .NotIn b = false := by rfl) : ZT X (.Compare a [.NotIn] [b] pos) (fTest (fBin gNotIn fa fb)) := z_cmpT (OpR.or op_notIn_str op_notIn_seq) oz_notin ha hb hm
end

/-! ### a[i] -/
def gIx (x y : Dv) (s : Sto) : Rs Dv := match x, y with
  | .str z, .int i => match atI z.cps.toList i with
    | some c => Rs.iff (decide (z.length ≤ 16777216)) (.ok (.str ⟨#[c]⟩) s)
    | none => .bad
  | .loc n, y => match s[n]?, y with
    | some (.lst ds), .int i => match atI ds i with | some d => .ok d s | none => .bad
    | some (.dk kvs), .int i => match valV' kvs (.inl i) with | some d => .ok d s | none => .bad
    | some (.dk kvs), .str z => match valV' kvs (.inr z) with | some d => .ok d s | none => .bad
    | _, _ => .bad
  | x, .int i => match (seqOf s x).bind (atI · i) with | some d => .ok d s | none => .bad
  | _, _ => .bad
where valV' (kvs : List (Key × Dv)) (k : Key) : Option Dv := (kvs.find? fun kv => decide (kv.1 = k)).map (·.2)
abbrev lookK := gIx.valV'
theorem rps_atI {K : PySem.W.Frag} {B : Lo} {H : Hp} {ds : List Dv} {xs : List V} (r : Rps K B H ds xs) {i : Int} {d : Dv} (h : atI ds i = some d) : ∃ v, atI xs i = some v ∧ Rp K B H d v := by
  obtain ⟨j, h1, h2⟩ := Option.bind_eq_some_iff.mp h
  obtain ⟨v, h3, h4⟩ := r.get h2
  refine ⟨v, ?_, h4⟩
  unfold atI
  rw [← r.length, h1]
  exact h3
theorem look_rel {K : PySem.W.Frag} {B : Lo} {H : Hp} {κ : Type} [DecidableEq κ] : ∀ {kvs : List (κ × Dv)} {ks : List (κ × V)}, Paired (fun (p : κ × Dv) (q : κ × V) => p.1 = q.1 ∧ Rp K B H p.2 q.2) kvs ks → ∀ {k : κ} {d : Dv},
    (kvs.find? fun kv => decide (kv.1 = k)).map (·.2) = some d → ∃ v, valV ks k = some v ∧ Rp K B H d v
  | _, _, .nil, k, d, h => by simp at h
  | (k1, d1) :: _, (k2, v2) :: _, .cons ⟨e, r⟩ t, k, d, h => by
    have e : k1 = k2 := e
    subst e
    unfold valV
    rw [List.find?_cons] at h ⊢
    by_cases hk : k1 = k
    · simp only [hk, decide_true] at h ⊢
      cases h
      exact ⟨v2, rfl, r⟩
    · simp only [hk, decide_false] at h ⊢
      exact look_rel t h
theorem gIx_cases {x y d : Dv} {s s' : Sto} (h : gIx x y s = .ok d s') : s' = s ∧ ((∃ z i c, x = .str z ∧ y = .int i ∧ atI z.cps.toList i = some c ∧ z.length ≤ 16777216 ∧ d = .str ⟨#[c]⟩) ∨
    (∃ i ds, y = .int i ∧ seqOf s x = some ds ∧ atI ds i = some d) ∨ ∃ n kvs k, x = .loc n ∧ s[n]? = some (.dk kvs) ∧ ((∃ i, y = .int i ∧ k = .inl i) ∨ ∃ z, y = .str z ∧ k = .inr z) ∧ lookK kvs k = some d) := by
  unfold gIx at h
  split at h
  · split at h
    · rename_i e
      obtain ⟨h1, h2⟩ := Rs.iff_ok h
      cases h2
      exact ⟨rfl, .inl ⟨_, _, _, rfl, rfl, e, of_decide_eq_true h1, rfl⟩⟩
    · cases h
  · split at h
    · rename_i e1
      split at h
      · rename_i e2
        cases h
        refine ⟨rfl, .inr (.inl ⟨_, _, rfl, ?_, e2⟩)⟩
        simp only [seqOf, e1]
      · cases h
    · rename_i e1
      split at h
      · rename_i e2
        cases h
        exact ⟨rfl, .inr (.inr ⟨_, _, _, rfl, e1, .inl ⟨_, rfl, rfl⟩, e2⟩)⟩
      · cases h
    · rename_i e1
      split at h
      · rename_i e2
        cases h
        exact ⟨rfl, .inr (.inr ⟨_, _, _, rfl, e1, .inr ⟨_, rfl, rfl⟩, e2⟩)⟩
      · cases h
    · cases h
  · split at h
    · rename_i e
      obtain ⟨ds, e1, e2⟩ := Option.bind_eq_some_iff.mp e
      cases h
      exact ⟨rfl, .inr (.inl ⟨_, _, rfl, e1, e2⟩)⟩
    · cases h
  · cases h
theorem rp_key {K : PySem.W.Frag} {B : Lo} {H : Hp} {y : Dv} {w : V} {k : Key} (ry : Rp K B H y w) (h : (∃ i, y = .int i ∧ k = .inl i) ∨ ∃ z, y = .str z ∧ k = .inr z) : w = kV k := by
  rcases h with ⟨i, rfl, rfl⟩ | ⟨z, rfl, rfl⟩
  · cases ry; rfl
  · cases ry; rfl
section
variable {G : Gz} {bs : List Str} {k : Nat} {X : Cx} {N : List Str} {nm : List (Str × NameKind)} {ow : Str → Bool} {a b c e : Expr} {fa fb fc : Fn Dv} {pos : Pos}
theorem z_ix (c : Cz G bs k X N nm ow) (ha : ZE X a fa) (hb : ZE X b fb) (hs : PlainIx b := by exact fun _ _ => rfl) : ZE X (.Subscript a b pos) (fBin gIx fa fb) := by
  refine pe_mono (pe_alt (pe_ix ix_seq ha hb hs) (pe_dget (hu_of c.rm) ha hb hs)) fun σ H Q q => ?_
  obtain ⟨B, env, s, d, s', hE, hS, hf, hQ⟩ := q
  obtain ⟨x, s1, h1, hf⟩ := Rs.bind_ok hf
  obtain ⟨y, s2, h2, hf⟩ := Rs.bind_ok hf
  obtain ⟨rfl, hg⟩ := gIx_cases hf
  rcases hg with hg | hg | ⟨n, kvs, ky, rfl, e1, e2, e3⟩
  · left
    refine ⟨B, env, s, _, _, hE, hS, h1, fun B1 H1 v x1 e1 S1 r1 => ?_⟩
    refine ⟨B1, env, s1, _, _, hE.mono x1.mo, S1, h2, fun B2 H2 w x2 e2 S2 r2 => ?_⟩
    obtain ⟨z, i, c, rfl, rfl, h3, h4, rfl⟩ := hg
    cases r1; cases r2
    exact .inr (.inr ⟨z, i, c, rfl, rfl, len_line h4, h3, hQ B2 H2 _ (x1.trans x2) (e2.trans e1) S2 (.str _)⟩)
  · left
    refine ⟨B, env, s, _, _, hE, hS, h1, fun B1 H1 v x1 e1 S1 r1 => ?_⟩
    refine ⟨B1, env, s1, _, _, hE.mono x1.mo, S1, h2, fun B2 H2 w x2 e2 S2 r2 => ?_⟩
    obtain ⟨i, ds, rfl, h3, h4⟩ := hg
    obtain ⟨p, xs, rfl, hq, rr⟩ := seq_of S2 (r1.mono x2.mo) h3
    obtain ⟨u, h5, ru⟩ := rps_atI rr h4
    cases r2
    rcases hq with hq | hq
    · exact .inl ⟨p, xs, i, u, rfl, rfl, hq, h5, hQ B2 H2 _ (x1.trans x2) (e2.trans e1) S2 ru⟩
    · exact .inr (.inl ⟨p, xs, i, u, rfl, rfl, hq, h5, hQ B2 H2 _ (x1.trans x2) (e2.trans e1) S2 ru⟩)
  · right
    refine ⟨B, env, s, _, _, hE, hS, h1, fun B1 H1 v x1 ee1 S1 r1 => ?_⟩
    refine ⟨B1, env, s1, _, _, hE.mono x1.mo, S1, h2, fun B2 H2 w x2 ee2 S2 r2 => ?_⟩
    cases r1.mono x2.mo with
    | loc hl =>
      obtain ⟨o, ho, ro⟩ := S2.at hl
      rw [e1] at ho; cases ho
      obtain ⟨ks, h3, h4⟩ := ro
      obtain ⟨u, h5, ru⟩ := look_rel h4 e3
      rw [rp_key r2 e2]
      refine ⟨_, u, rfl, ?_, hQ B2 H2 _ (x1.trans x2) (ee2.trans ee1) S2 ru⟩
      rw [← h5]
      exact DGet.k h3
end
end Z

namespace Z
open PySem PySem.Spec PyProof.Rows L2

/-! ### statements -/
inductive Ct where
  | next (env : En) | ret (d : Dv) | brk (env : En) | cont (env : En)
def PostC (K : PySem.W.Frag) (B : Lo) (H : Hp) (s' : Sto) (D : Ends) : Ct → Prop
  | .next env => ∀ (B' : Lo) (H' : Hp) (σ' : L2.St), Ext B H B' H' → B'.hid = B.hid → Sim K B' H' s' → RpE K B' H' env σ' → D.nx σ' H'
  | .ret d => ∀ (B' : Lo) (H' : Hp) (v : V), Ext B H B' H' → B'.hid = B.hid → Sim K B' H' s' → Rp K B' H' d v → D.rt v H'
  | .brk env => ∀ (B' : Lo) (H' : Hp) (σ' : L2.St), Ext B H B' H' → B'.hid = B.hid → Sim K B' H' s' → RpE K B' H' env σ' → D.bk σ' H'
  | .cont env => ∀ (B' : Lo) (H' : Hp) (σ' : L2.St), Ext B H B' H' → B'.hid = B.hid → Sim K B' H' s' → RpE K B' H' env σ' → D.ct σ' H'
def tOfS (K : PySem.W.Frag) (f : Fn Ct) : TS := fun D σ H => ∃ B env s c s', RpE K B H env σ ∧ Sim K B H s ∧ f env s = .ok c s' ∧ PostC K B H s' D c
abbrev ZS (X : Cx) (st : Stmt) (f : Fn Ct) : Prop := PS X st (tOfS X.K f)
abbrev ZB (X : Cx) (st : List Stmt) (f : Fn Ct) : Prop := PSs X st (tOfS X.K f)
theorem pss_mono {X : Cx} {e : List Stmt} {t t' : TS} (h : PSs X e t) (hh : ∀ D σ H, t' D σ H → t D σ H) : PSs X e t' := ⟨fun pins s σ H Q I q => h.run pins s σ H Q I (hh _ _ _ q)⟩
theorem PostC.ahead {K : PySem.W.Frag} {B B1 : Lo} {H H1 : Hp} {s' : Sto} {D : Ends} (x : Ext B H B1 H1) (e : B1.hid = B.hid) : ∀ {c : Ct}, PostC K B H s' D c → PostC K B1 H1 s' D c
  | .next env, h => fun B' H' σ' x' e' S r => h B' H' σ' (x.trans x') (e'.trans e) S r
  | .ret d, h => fun B' H' σ' x' e' S r => h B' H' σ' (x.trans x') (e'.trans e) S r
  | .brk env, h => fun B' H' σ' x' e' S r => h B' H' σ' (x.trans x') (e'.trans e) S r
  | .cont env, h => fun B' H' σ' x' e' S r => h B' H' σ' (x.trans x') (e'.trans e) S r
def fNop : Fn Ct := fun env s => .ok (.next env) s
def fSeq (f g : Fn Ct) : Fn Ct := fun env s => (f env s).bind fun c s1 => match c with | .next e => g e s1 | c => .ok c s1
section
variable {G : Gz} {bs : List Str} {k : Nat} {X : Cx} {N : List Str} {nm : List (Str × NameKind)} {ow : Str → Bool} {a b c e : Expr} {fa fb fc : Fn Dv} {pos : Pos} {st : Stmt} {rest p q : List Stmt} {f g : Fn Ct} {x : Str} {i : Nat} {tc : Fn Bool}
theorem z_snil : ZB X [] fNop := by
  refine pss_mono pss_nil fun D σ H q => ?_
  obtain ⟨B, env, s, c, s', hE, hS, hf, hQ⟩ := q
  cases hf
  exact hQ B H σ (Ext.refl _ _) rfl hS hE
theorem z_cons2 (h1 : ZS X st f) (h2 : ZB X rest g) : ZB X (st :: rest) (fSeq f g) := by
  refine pss_mono (pss_cons h1 h2) fun D σ H q => ?_
  obtain ⟨B, env, s, c, s', hE, hS, hf, hQ⟩ := q
  obtain ⟨c1, s1, h1, hf⟩ := Rs.bind_ok hf
  refine ⟨B, env, s, c1, s1, hE, hS, h1, ?_⟩
  cases c1 with
  | next e1 => exact fun B1 H1 σ1 x1 ee S1 r1 => ⟨B1, e1, s1, c, s', r1, S1, hf, hQ.ahead x1 ee⟩
  | ret d => cases hf; exact hQ
  | brk d => cases hf; exact hQ
  | cont d => cases hf; exact hQ
theorem z_sone (h1 : ZS X st f) : ZB X [st] f := pss_one h1
def fBrk : Fn Ct := fun env s => .ok (.brk env) s
def fCont : Fn Ct := fun env s => .ok (.cont env) s
/-- a statement that the law never comes to -/
def fNever : Fn Ct := fun _ _ => .bad
def fDrop (f : Fn Dv) : Fn Ct := fun env s => (f env s).bind fun _ s1 => .ok (.next env) s1
theorem z_expr (h : ZE X e fa) (hs : swapsWith e none pos.line X.env = pure false := by rfl) : ZS X (.Expr e pos) (fDrop fa) := by
  refine ps_mono (ps_expr h hs) fun D σ H q => ?_
  obtain ⟨B, env, s, c, s', hE, hS, hf, hQ⟩ := q
  obtain ⟨d, s1, h1, hf⟩ := Rs.bind_ok hf
  cases hf
  exact ⟨B, env, s, _, _, hE, hS, h1, fun B1 H1 v x1 e1 S1 r1 => hQ B1 H1 σ x1 e1 S1 (hE.mono x1.mo)⟩
def fRet (f : Fn Dv) : Fn Ct := fun env s => (f env s).bind fun d s1 => .ok (.ret d) s1
theorem z_ret (h : ZE X e fa) : ZS X (.Return (some e) pos) (fRet fa) := by
  refine ps_mono (ps_ret h) fun D σ H q => ?_
  obtain ⟨B, env, s, c, s', hE, hS, hf, hQ⟩ := q
  obtain ⟨d, s1, h1, hf⟩ := Rs.bind_ok hf
  cases hf
  exact ⟨B, env, s, _, _, hE, hS, h1, fun B1 H1 v x1 e1 S1 r1 => hQ B1 H1 v x1 e1 S1 r1⟩
def fRetN : Fn Ct := fun _ s => .ok (.ret .non) s
def fIfS (t : Fn Bool) (f g : Fn Ct) : Fn Ct := fun env s => (t env s).bind fun b s1 => if b = true then f env s1 else g env s1
theorem z_ifS (hc : ZT X a tc) (hp : ZB X p f) (hq : ZB X q g) : ZS X (.If a p q pos) (fIfS tc f g) := by
  refine ps_mono (ps_if hc hp hq) fun D σ H q => ?_
  obtain ⟨B, env, s, c, s', hE, hS, hf, hQ⟩ := q
  obtain ⟨d, s1, h1, hf⟩ := Rs.bind_ok hf
  refine ⟨B, env, s, _, _, hE, hS, h1, fun B1 H1 x1 e1 S1 => ?_⟩
  split at hf
  · rename_i hx
    rw [if_pos hx]
    exact ⟨B1, env, s1, c, s', hE.mono x1.mo, S1, hf, hQ.ahead x1 e1⟩
  · rename_i hx
    rw [if_neg hx]
    exact ⟨B1, env, s1, c, s', hE.mono x1.mo, S1, hf, hQ.ahead x1 e1⟩
/-- a name is set -/
def fSet (i : Nat) (f : Fn Dv) : Fn Ct := fun env s => (f env s).bind fun d s1 => .ok (.next (env.set i (some d))) s1
theorem set_to {K : PySem.W.Frag} {te : TE} (ht : ∀ σ H Q, tOf K fa σ H Q → te σ H Q) : ∀ D σ H, tOfS K (fSet i fa) D σ H → tAsg te (gName i) D σ H := fun D σ H q => by
  obtain ⟨B, env, s, c, s', hE, hS, hf, hQ⟩ := q
  obtain ⟨d, s1, h1, hf⟩ := Rs.bind_ok hf
  cases hf
  exact ht _ _ _ ⟨B, env, s, _, _, hE, hS, h1, fun B1 H1 v x1 e1 S1 r1 => hQ B1 H1 _ x1 e1 S1 ((hE.mono x1.mo).set i r1)⟩
theorem z_set {pos' : Pos} (c : Cz G bs k X N nm ow) (h : sOk N nm ow i x = true) (he : ZE X e fa) (hs : swapsWith e (some (.Name x pos')) pos.line X.env = pure false := by rfl) : ZS X (.Assign [.Name x pos'] e pos) (fSet i fa) := by
  obtain ⟨h1, h2, h3⟩ := c.loc h
  have nd : X.N.Nodup := by rw [c.hN]; exact c.nd
  exact ps_mono (ps_set nd h1 h2 he hs h3) (set_to fun _ _ _ h => h)
end

/-! ### targets -/
/-- an item of a loop: q: a pair that came up for the loop's target alone -/
def Rel (K : PySem.W.Frag) (q : Bool) (B : Lo) (H : Hp) (d : Dv) (v : V) : Prop := match q with
  | false => Rp K B H d v
  | true => Rp K B H d v ∨ ∃ a xs ds, d = .tup ds ∧ v = .ref a ∧ SqT K H a xs ∧ Rps K B H ds xs
theorem Rel.of {K : PySem.W.Frag} {q : Bool} {B : Lo} {H : Hp} {d : Dv} {v : V} (h : Rp K B H d v) : Rel K q B H d v := by
  cases q
  · exact h
  · exact .inl h
/-- the slots alone that is names -/
def Only1 (is : List Nat) (σ σ' : L2.St) : Prop := σ'.length = σ.length ∧ ∀ j : Nat, j ∉ is → σ'[j]? = σ[j]?
def tOfG (K : PySem.W.Frag) (q : Bool) (is : List Nat) (g : Dv → Fn En) : TG := fun v σ H Q => ∃ B env s d env' s', RpE K B H env σ ∧ Sim K B H s ∧ Rel K q B H d v ∧ g d env s = .ok env' s' ∧
  ∀ (B' : Lo) (H' : Hp) (σ' : L2.St), Ext B H B' H' → B'.hid = B.hid → Sim K B' H' s' → RpE K B' H' env' σ' → Only1 is σ σ' → Q σ' H'
abbrev ZG (X : Cx) (q : Bool) (is : List Nat) (tg : Expr) (g : Dv → Fn En) : Prop := PG X tg (tOfG X.K q is g)
def tOfGs (K : PySem.W.Frag) (is : List Nat) (g : List Dv → Fn En) : TGs := fun vs σ H Q => ∃ B env s ds env' s', RpE K B H env σ ∧ Sim K B H s ∧ Rps K B H ds vs ∧ g ds env s = .ok env' s' ∧
  ∀ (B' : Lo) (H' : Hp) (σ' : L2.St), Ext B H B' H' → B'.hid = B.hid → Sim K B' H' s' → RpE K B' H' env' σ' → Only1 is σ σ' → Q σ' H'
abbrev ZGs (X : Cx) (is : List Nat) (tg : List Expr) (g : List Dv → Fn En) : Prop := PGs X tg (tOfGs X.K is g)
def gNm (i : Nat) : Dv → Fn En := fun d env s => .ok (env.set i (some d)) s
def gsNil : List Dv → Fn En := fun ds env s => match ds with | [] => .ok env s | _ => .bad
def gsCons (g : Dv → Fn En) (h : List Dv → Fn En) : List Dv → Fn En := fun ds env s => match ds with | d :: r => (g d env s).bind fun env1 s1 => h r env1 s1 | _ => .bad
def gTp (n : Nat) (h : List Dv → Fn En) : Dv → Fn En := fun d env s => match d with | .tup ds => Rs.iff (ds.length == n) (h ds env s) | _ => .bad
section
variable {G : Gz} {bs : List Str} {k : Nat} {X : Cx} {N : List Str} {nm : List (Str × NameKind)} {ow : Str → Bool} {a b c e : Expr} {fa fb fc : Fn Dv} {pos : Pos} {x : Str} {i : Nat} {q : Bool}
theorem zg_name (c : Cz G bs k X N nm ow) (h : sOk N nm ow i x = true) : ZG X false [i] (.Name x pos) (gNm i) := by
  obtain ⟨h1, h2, h3⟩ := c.loc h
  have nd : X.N.Nodup := by rw [c.hN]; exact c.nd
  refine pg_mono (pg_name nd h1 h2 h3) fun v σ H Q q => ?_
  obtain ⟨B, env, s, d, env', s', hE, hS, hr, hg, hQ⟩ := q
  cases hg
  refine hQ B H _ (Ext.refl _ _) rfl hS (hE.set i hr) ⟨by rw [List.length_set], fun j hj => ?_⟩
  rw [List.getElem?_set_ne (fun e => hj (by rw [e]; exact List.mem_singleton.mpr rfl))]
theorem zgs_nil : ZGs X [] [] gsNil := by
  refine ⟨fun pins s σ H vs us Q I r q => pgs_nil.run pins s σ H vs us Q I r ?_⟩
  obtain ⟨B, env, s, ds, env', s', hE, hS, hr, hg, hQ⟩ := q
  cases ds with
  | nil =>
    cases hg
    cases hr
    exact ⟨rfl, hQ B H σ (Ext.refl _ _) rfl hS hE ⟨rfl, fun _ _ => rfl⟩⟩
  | cons d r => cases hg
theorem zgs_cons {es : List Expr} {is js : List Nat} {g : Dv → Fn En} {h : List Dv → Fn En} (h1 : ZG X false is e g) (h2 : ZGs X js es h) (hs : (assignEach (e :: es) X.env).map (·.2) = assign e X.env :: (assignEach es X.env).map (·.2) := by rfl) :
    ZGs X (is ++ js) (e :: es) (gsCons g h) := by
  refine ⟨fun pins s σ H vs us Q I r q => (pgs_cons h1 h2 hs).run pins s σ H vs us Q I r ?_⟩
  obtain ⟨B, env, s, ds, env', s', hE, hS, hr, hg, hQ⟩ := q
  cases hr with
  | nil => cases hg
  | cons r1 rr =>
    obtain ⟨env1, s1, hg1, hg⟩ := Rs.bind_ok (r := _) (f := fun env1 s1 => h _ env1 s1) hg
    refine ⟨_, _, rfl, B, env, _, _, _, _, hE, hS, r1, hg1, fun B1 H1 σ1 x1 e1 S1 E1 o1 => ?_⟩
    refine ⟨B1, _, _, _, _, _, E1, S1, rr.mono x1.mo, hg, fun B2 H2 σ2 x2 e2 S2 E2 o2 => ?_⟩
    refine hQ B2 H2 σ2 (x1.trans x2) (e2.trans e1) S2 E2 ⟨o2.1.trans o1.1, fun j hj => ?_⟩
    rw [List.mem_append, not_or] at hj
    exact (o2.2 j hj.2).trans (o1.2 j hj.1)
theorem zg_tup {es : List Expr} {kk n : Nat} {is : List Nat} {h : List Dv → Fn En} (c : Cz G bs k X N nm ow) (hh : ZGs X is es h) (hn : (assignEach es X.env).length = n := by rfl) (hst : (assignEach es X.env).findIdx? (·.1) = none := by rfl) : ZG X q is (.Tuple es kk pos) (gTp n h) := by
  refine pg_mono (pg_tup c.calm hh hn hst) fun v σ H Q q => ?_
  obtain ⟨B, env, s, d, env', s', hE, hS, hr, hg, hQ⟩ := q
  have go : ∀ {ds : List Dv}, d = .tup ds → (∃ a xs, v = .ref a ∧ SqT X.K H a xs ∧ Rps X.K B H ds xs) → gTup X.K n (tOfGs X.K is h) v σ H Q := fun {ds} ed hx => by
    subst ed
    obtain ⟨a, xs, ev, hq, hrs⟩ := hx
    obtain ⟨hl, hg⟩ := Rs.iff_ok (c := ds.length == n) (r := h ds env s) hg
    exact ⟨a, xs, ev, hq, hrs.length ▸ (beq_iff_eq.mp hl), B, env, s, ds, env', s', hE, hS, hrs, hg, hQ⟩
  cases d with
  | tup ds =>
    cases q with
    | false =>
      have hr : Rp X.K B H (.tup ds) v := hr
      cases hr with
      | tup h1 h2 => exact go rfl ⟨_, _, rfl, h1.sq, h2⟩
    | true =>
      rcases hr with hr | ⟨a, xs, ds', ed, ev, hq, hrs⟩
      · cases hr with
        | tup h1 h2 => exact go rfl ⟨_, _, rfl, h1.sq, h2⟩
      · cases ed
        exact go rfl ⟨a, xs, ev, hq, hrs⟩
  | _ => cases hg
/-- target = value, by any target -/
def fAsg (f : Fn Dv) (g : Dv → Fn En) : Fn Ct := fun env s => (f env s).bind fun d s1 => (g d env s1).bind fun env1 s2 => .ok (.next env1) s2
theorem z_asg {tg : Expr} {is : List Nat} {g : Dv → Fn En} (he : ZE X e fa) (hg : ZG X false is tg g) (hs : swapsWithSole [tg] e pos.line X.env = pure false := by rfl) (hw : swappedStores [tg] e X.env = pure none := by rfl)
    (h1 : (assignEach [tg] X.env).map (·.2) = [assign tg X.env] := by rfl) : ZS X (.Assign [tg] e pos) (fAsg fa g) := by
  refine ps_mono (ps_asg he hg hs hw h1) fun D σ H q => ?_
  obtain ⟨B, env, s, c, s', hE, hS, hf, hQ⟩ := q
  obtain ⟨d, s1, h1, hf⟩ := Rs.bind_ok hf
  obtain ⟨env1, s2, h2, hf⟩ := Rs.bind_ok hf
  cases hf
  refine ⟨B, env, s, _, _, hE, hS, h1, fun B1 H1 v x1 e1 S1 r1 => ?_⟩
  exact ⟨B1, env, _, _, _, _, hE.mono x1.mo, S1, r1, h2, fun B2 H2 σ2 x2 e2 S2 E2 _ => hQ B2 H2 σ2 (x1.trans x2) (e2.trans e1) S2 E2⟩
end
end Z

namespace Z
open PySem PySem.Spec PyProof.Rows L2

mutual
def eqDv : Dv → Dv → Bool
  | .non, .non => true
  | .bl a, .bl b => a == b
  | .int a, .int b => a == b
  | .str a, .str b => decide (a = b)
  | .tup a, .tup b => eqDvs a b
  | .ls a, .ls b => eqDvs a b
  | .loc a, .loc b => a == b
  | .xn a b c fs, .xn a2 b2 c2 gs => decide (a = a2) && (decide (b = b2) && (decide (c = c2) && eqDvs fs gs))
  | _, _ => false
def eqDvs : List Dv → List Dv → Bool
  | [], [] => true
  | a :: r, b :: t => eqDv a b && eqDvs r t
  | _, _ => false
end
mutual
theorem eqDv_eq : ∀ {a b : Dv}, eqDv a b = true → a = b
  | .non, b, h => by cases b <;> first | rfl | cases h
  | .bl x, b, h => by cases b <;> first | (rw [beq_iff_eq.mp h]) | cases h
  | .int x, b, h => by cases b <;> first | (rw [beq_iff_eq.mp h]) | cases h
  | .str x, b, h => by cases b <;> first | (rw [of_decide_eq_true h]) | cases h
  | .tup x, b, h => by cases b <;> first | (rw [eqDvs_eq h]) | cases h
  | .ls x, b, h => by cases b <;> first | (rw [eqDvs_eq h]) | cases h
  | .loc x, b, h => by cases b <;> first | (rw [beq_iff_eq.mp h]) | cases h
  | .xn x y z w, b, h => by
    cases b with
    | xn x2 y2 z2 w2 =>
      have h' : (decide (x = x2) && (decide (y = y2) && (decide (z = z2) && eqDvs w w2))) = true := h
      rw [Bool.and_eq_true, Bool.and_eq_true, Bool.and_eq_true] at h'
      rw [of_decide_eq_true h'.1, of_decide_eq_true h'.2.1, of_decide_eq_true h'.2.2.1, eqDvs_eq h'.2.2.2]
    | _ => cases h
theorem eqDvs_eq : ∀ {a b : List Dv}, eqDvs a b = true → a = b
  | [], b, h => by cases b <;> first | rfl | cases h
  | x :: r, b, h => by
    cases b with
    | nil => cases h
    | cons y t =>
      have h' : (eqDv x y && eqDvs r t) = true := h
      rw [Bool.and_eq_true] at h'
      rw [eqDv_eq h'.1, eqDvs_eq h'.2]
end
mutual
theorem eqDv_rfl : ∀ a : Dv, eqDv a a = true
  | .non => rfl
  | .bl x => by simp [eqDv]
  | .int x => by simp [eqDv]
  | .str x => by simp [eqDv]
  | .tup x => by simp [eqDv, eqDvs_rfl x]
  | .ls x => by simp [eqDv, eqDvs_rfl x]
  | .loc x => by simp [eqDv]
  | .xn x y z w => by simp [eqDv, eqDvs_rfl w]
theorem eqDvs_rfl : ∀ a : List Dv, eqDvs a a = true
  | [] => rfl
  | x :: r => by simp [eqDvs, eqDv_rfl x, eqDvs_rfl r]
end

/-! ### what is walked -/
def isLst (n : Nat) (ds : List Dv) (s : Sto) : Bool := match s[n]? with | some (.lst es) => eqDvs es ds | _ => false
theorem isLst_at {n : Nat} {ds : List Dv} {s : Sto} (h : isLst n ds s = true) : s[n]? = some (.lst ds) := by
  unfold isLst at h
  split at h
  · rename_i e; rw [e, eqDvs_eq h]
  · cases h
abbrev Src := List Dv × (Sto → Bool)
/-- from here on the walk hands out ds, as long as the check holds -/
def WalkZ (K : PySem.W.Frag) (q : Bool) (J : It) (B : Lo) (H : Hp) (src : Src) : Prop :=
  ∀ (B1 : Lo) (H1 : Hp) (s1 : Sto), Ext B H B1 H1 → Sim K B1 H1 s1 → src.2 s1 = true →
    (∀ (i : Nat) (d : Dv), src.1[i]? = some d → J.go i H1 ∧ ∀ x H2, J.yld i H1 x H2 → Ext B1 H1 B1 H2 ∧ Sim K B1 H2 s1 ∧ Rel K q B1 H2 d x) ∧ J.stop src.1.length H1
def tOfI (K : PySem.W.Frag) (q : Bool) (f : Fn Src) : TI := fun σ H R => ∃ B env s src s', RpE K B H env σ ∧ Sim K B H s ∧ f env s = .ok src s' ∧
  ∀ (B' : Lo) (H' : Hp) (J : It), Ext B H B' H' → B'.hid = B.hid → Sim K B' H' s' → WalkZ K q J B' H' src → R J H'
abbrev ZI (X : Cx) (q : Bool) (tg iter : Expr) (f : Fn Src) : Prop := PI X tg iter (tOfI X.K q f)
theorem pi_mono {X : Cx} {tg e : Expr} {t t' : TI} (h : PI X tg e t) (hh : ∀ σ H Q, t' σ H Q → t σ H Q) : PI X tg e t' := ⟨fun pins s σ H Q I q => h.run pins s σ H Q I (hh _ _ _ q)⟩
theorem pi_alt {X : Cx} {tg e : Expr} {t t' : TI} (h : PI X tg e t) (h' : PI X tg e t') : PI X tg e (fun σ H Q => t σ H Q ∨ t' σ H Q) := ⟨fun pins s σ H Q I q => q.elim (h.run pins s σ H Q I) (h'.run pins s σ H Q I)⟩
theorem walk_list {K : PySem.W.Frag} {a : Addr} {q : Bool} {B : Lo} {H : Hp} {ds : List Dv} {chk : Sto → Bool} (h : ∀ (B1 : Lo) (H1 : Hp) (s1 : Sto), Ext B H B1 H1 → Sim K B1 H1 s1 → chk s1 = true → ∃ xs, SqL K H1 a xs ∧ Rps K B1 H1 ds xs) : WalkZ K q (Itl K a) B H (ds, chk) := by
  intro B1 H1 s1 x S hc
  obtain ⟨xs, h1, h2⟩ := h B1 H1 s1 x S hc
  refine ⟨fun i d e => ?_, xs, h1, by rw [← h2.length]; exact Nat.le_refl _⟩
  obtain ⟨v, e1, r⟩ := h2.get e
  refine ⟨⟨xs, v, h1, e1⟩, fun y H2 hy => ?_⟩
  obtain ⟨rfl, hy⟩ := hy
  have e2 := hy xs h1
  rw [e1] at e2; cases e2
  exact ⟨Ext.refl _ _, S, .of r⟩
theorem walk_tup {K : PySem.W.Frag} {a : Addr} {q : Bool} {B : Lo} {H : Hp} {ds : List Dv} {chk : Sto → Bool} {xs : List V} (h1 : Tk K H a xs) (h2 : Rps K B H ds xs) : WalkZ K q (Itt K a) B H (ds, chk) := by
  intro B1 H1 s1 x S hc
  have h1 := (x.mo.tk h1).sq
  have h2 := h2.mono x.mo
  refine ⟨fun i d e => ?_, xs, h1, by rw [← h2.length]; exact Nat.le_refl _⟩
  obtain ⟨v, e1, r⟩ := h2.get e
  refine ⟨⟨xs, v, h1, e1⟩, fun y H2 hy => ?_⟩
  obtain ⟨rfl, hy⟩ := hy
  have e2 := hy xs h1
  rw [e1] at e2; cases e2
  exact ⟨Ext.refl _ _, S, .of r⟩
def noChk : Sto → Bool := fun _ => true
/-- a list or a tuple walked -/
def fSrc (f : Fn Dv) : Fn Src := fun env s => (f env s).bind fun d s1 => match d with
  | .tup ds => .ok (ds, noChk) s1
  | .ls ds => .ok (ds, noChk) s1
  | .loc n => match s1[n]? with | some (.lst ds) => .ok (ds, isLst n ds) s1 | _ => .bad
  | _ => .bad
def rngD (lo : Int) (n : Nat) : List Dv := (List.range n).map fun (i : Nat) => Dv.int (lo + (i : Int))
theorem rngD_len (lo : Int) (n : Nat) : (rngD lo n).length = n := by simp [rngD]
theorem rngD_get {lo : Int} {n i : Nat} {d : Dv} (h : (rngD lo n)[i]? = some d) : i < n ∧ d = .int (lo + i) := by
  have hl : i < n := by have := (List.getElem?_eq_some_iff.mp h).1; simpa [rngD] using this
  refine ⟨hl, ?_⟩
  simp [rngD, hl] at h
  exact h.symm
theorem walk_rng {K : PySem.W.Frag} {q : Bool} {B : Lo} {H : Hp} {chk : Sto → Bool} (lo : Int) (n : Nat) : WalkZ K q (Itr lo n) B H (rngD lo n, chk) := by
  intro B1 H1 s1 x S hc
  refine ⟨fun i d e => ?_, Nat.le_of_eq (rngD_len lo n).symm⟩
  obtain ⟨hl, rfl⟩ := rngD_get e
  refine ⟨hl, fun y H2 hy => ?_⟩
  obtain ⟨rfl, rfl⟩ := hy
  exact ⟨Ext.refl _ _, S, .of (.int _)⟩
def inRng (i : Int) : Bool := decide (-(2 ^ 62) ≤ i) && decide (i < 2 ^ 62)
theorem inRng_ok {i : Int} (h : inRng i = true) : -(2 ^ 62) ≤ i ∧ i < 2 ^ 62 := by
  unfold inRng at h
  simpa only [Bool.and_eq_true, decide_eq_true_eq] using h
def fRng1 (f : Fn (List Dv)) : Fn Src := fun env s => (f env s).bind fun ds s1 => match ds with | [.int j] => Rs.iff (inRng j) (.ok (rngD 0 j.toNat, noChk) s1) | _ => .bad
def fRng2 (f : Fn (List Dv)) : Fn Src := fun env s => (f env s).bind fun ds s1 => match ds with | [.int i, .int j] => Rs.iff (inRng i && inRng j) (.ok (rngD i (j - i).toNat, noChk) s1) | _ => .bad
section
variable {G : Gz} {bs : List Str} {k : Nat} {X : Cx} {N : List Str} {nm : List (Str × NameKind)} {ow : Str → Bool} {a b e tg : Expr} {fa fb fc : Fn Dv} {fs : Fn (List Dv)} {pos p : Pos} {q : Bool}
theorem zi_seq (he : ZE X e fa) : ZI X q tg e (fSrc fa) := by
  refine pi_mono (pi_alt (pi_list (tg := tg) he) (pi_tup (tg := tg) he)) fun σ H R h => ?_
  obtain ⟨B, env, s, src, s', hE, hS, hf, hQ⟩ := h
  obtain ⟨d, s1, h1, hf⟩ := Rs.bind_ok hf
  cases d with
  | tup ds =>
    cases hf
    right
    refine ⟨B, env, s, _, _, hE, hS, h1, fun B1 H1 v x1 e1 S1 r1 => ?_⟩
    cases r1 with
    | tup h2 h3 => exact ⟨_, rfl, ⟨_, h2.sq⟩, hQ B1 H1 _ x1 e1 S1 (walk_tup h2 h3)⟩
  | ls ds =>
    cases hf
    left
    refine ⟨B, env, s, _, _, hE, hS, h1, fun B1 H1 v x1 e1 S1 r1 => ?_⟩
    cases r1 with
    | ls h2 h3 => exact ⟨_, rfl, ⟨_, h2.sq⟩, hQ B1 H1 _ x1 e1 S1 (walk_list fun B2 H2 s2 x2 S2 _ => ⟨_, (x2.mo.ls h2).sq, h3.mono x2.mo⟩)⟩
  | loc n =>
    left
    cases e : s1[n]? with
    | none => simp [e] at hf
    | some o =>
      cases o with
      | lst ds =>
        simp [e] at hf
        obtain ⟨rfl, rfl⟩ := hf
        refine ⟨B, env, s, _, _, hE, hS, h1, fun B1 H1 v x1 e1 S1 r1 => ?_⟩
        cases r1 with
        | loc h2 =>
          obtain ⟨o, ho, ro⟩ := S1.at h2
          rw [e] at ho; cases ho
          obtain ⟨xs, h3, h4⟩ := ro
          refine ⟨_, rfl, ⟨_, .of h3⟩, hQ B1 H1 _ x1 e1 S1 (walk_list fun B2 H2 s2 x2 S2 hc => ?_)⟩
          have h5 := isLst_at hc
          obtain ⟨o, ho, ro⟩ := S2.at (pre_get x2.mo.pre h2)
          rw [h5] at ho; cases ho
          obtain ⟨ys, h6, h7⟩ := ro
          exact ⟨ys, .of h6, h7⟩
      | _ => simp [e] at hf
  | _ => cases hf
theorem zi_rng1 (c : Cz G bs k X N nm ow) (ha : ZA X [a] fs) (hb : bOk bs nm "range" = true := by decide +kernel) (hs : starEach [a] X.env = [(false, eval a X.env)] := by rfl) : ZI X q tg (.Call (.Name "range" p) [a] [] pos) (fRng1 fs) := by
  obtain ⟨hg, hm⟩ := c.blt hb
  refine pi_mono (pi_range1 hg hm ha hs) fun σ H R h => ?_
  obtain ⟨B, env, s, src, s', hE, hS, hf, hQ⟩ := h
  obtain ⟨ds, s1, h1, hf⟩ := Rs.bind_ok hf
  split at hf
  · obtain ⟨hj, hf⟩ := Rs.iff_ok hf
    cases hf
    obtain ⟨j1, j2⟩ := inRng_ok hj
    refine ⟨B, env, s, _, _, hE, hS, h1, fun B1 H1 v x1 e1 S1 r1 => ?_⟩
    cases r1 with
    | cons r rr =>
      cases r; cases rr
      exact ⟨_, rfl, j1, j2, hQ B1 H1 _ x1 e1 S1 (walk_rng _ _)⟩
  · cases hf
end

/-! ### for -/
def loopZ (chk : Sto → Bool) (g : Dv → Fn En) (body : Fn Ct) : List Dv → Fn Ct
  | [], env, s => Rs.iff (chk s) (.ok (.next env) s)
  | d :: ds, env, s => Rs.iff (chk s) ((g d env s).bind fun env1 s1 => (body env1 s1).bind fun c s2 => match c with
    | .next e => loopZ chk g body ds e s2
    | .cont e => loopZ chk g body ds e s2
    | .brk e => .ok (.next e) s2
    | .ret r => .ok (.ret r) s2)
def fFor (fi : Fn Src) (g : Dv → Fn En) (body : Fn Ct) : Fn Ct := fun env s => (fi env s).bind fun src s1 => loopZ src.2 g body src.1 env s1
section
variable {G : Gz} {bs : List Str} {k : Nat} {X : Cx} {N : List Str} {nm : List (Str × NameKind)} {ow : Str → Bool} {a b e tg iter : Expr} {fa fb fc : Fn Dv} {pos p : Pos} {q : Bool} {body : List Stmt} {fi : Fn Src} {g : Dv → Fn En} {fb : Fn Ct} {is : List Nat}
theorem z_for (c : Cz G bs k X N nm ow) (hi : ZI X q tg iter fi) (hg : ZG X q is tg g) (hb : ZB X body fb) (hs : ∀ x, foldedSetIterable iter X.env x = pure x := by intro _; rfl) : ZS X (.For tg iter body [] pos) (fFor fi g fb) := by
  refine ps_mono (ps_for c.po c.calm hi hg hb hs) fun D σ H h => ?_
  obtain ⟨B, env, s, ct, s', hE, hS, hf, hQ⟩ := h
  obtain ⟨src, s1, h1, hf⟩ := Rs.bind_ok hf
  refine ⟨B, env, s, _, _, hE, hS, h1, fun B1 H1 J x1 e1 S1 W1 => ?_⟩
  have hQ1 := hQ.ahead x1 e1
  refine ⟨fun i m σ3 H3 => m = src.1.length - i ∧ i ≤ src.1.length ∧ ∃ B3 env3 s3, Ext B1 H1 B3 H3 ∧ B3.hid = B1.hid ∧ Sim X.K B3 H3 s3 ∧ RpE X.K B3 H3 env3 σ3 ∧ loopZ src.2 g fb (src.1.drop i) env3 s3 = .ok ct s',
    ⟨_, rfl, Nat.zero_le _, B1, env, s1, Ext.refl _ _, rfl, S1, hE.mono x1.mo, hf⟩, fun i m σ3 H3 w => ?_⟩
  obtain ⟨rfl, hi, B3, env3, s3, x3, e3, S3, E3, hl⟩ := w
  by_cases hlt : i < src.1.length
  · have hd : src.1.drop i = src.1[i] :: src.1.drop (i + 1) := List.drop_eq_getElem_cons hlt
    rw [hd] at hl
    obtain ⟨hc, hl⟩ := Rs.iff_ok hl
    obtain ⟨hgo, _⟩ := W1 B3 H3 s3 x3 S3 hc
    obtain ⟨go, yl⟩ := hgo i src.1[i] (List.getElem?_eq_getElem hlt)
    obtain ⟨env4, s4, h4, hl⟩ := Rs.bind_ok hl
    obtain ⟨c5, s5, h5, hl⟩ := Rs.bind_ok hl
    right
    refine ⟨go, fun σ' H' => ∃ B5 env5, Ext B1 H1 B5 H' ∧ B5.hid = B1.hid ∧ Sim X.K B5 H' s5 ∧ RpE X.K B5 H' env5 σ' ∧ loopZ src.2 g fb (src.1.drop (i + 1)) env5 s5 = .ok ct s', fun σ' H' hN => ?_, fun x H' hy => ?_⟩
    · obtain ⟨B5, env5, x5, e5, S5, E5, hl5⟩ := hN
      exact ⟨_, by omega, rfl, hlt, B5, env5, s5, x5, e5, S5, E5, hl5⟩
    · obtain ⟨x6, S6, r6⟩ := yl x H' hy
      refine ⟨B3, env3, s3, _, _, _, E3.mono x6.mo, S6, r6, h4, fun B7 H7 σ7 x7 e7 S7 E7 o7 => ?_⟩
      refine ⟨B7, env4, s4, c5, s5, E7, S7, h5, ?_⟩
      have xx : Ext B1 H1 B7 H7 := x3.trans (x6.trans x7)
      have ee : B7.hid = B1.hid := e7.trans e3
      cases c5 with
      | next env5 => exact fun B8 H8 σ8 x8 e8 S8 E8 => ⟨B8, env5, xx.trans x8, e8.trans ee, S8, E8, hl⟩
      | cont env5 => exact fun B8 H8 σ8 x8 e8 S8 E8 => ⟨B8, env5, xx.trans x8, e8.trans ee, S8, E8, hl⟩
      | brk env5 =>
        cases hl
        exact fun B8 H8 σ8 x8 e8 S8 E8 => hQ1 B8 H8 σ8 (xx.trans x8) (e8.trans ee) S8 E8
      | ret d =>
        cases hl
        exact fun B8 H8 v x8 e8 S8 r8 => hQ1 B8 H8 v (xx.trans x8) (e8.trans ee) S8 r8
  · have hi2 : i = src.1.length := by omega
    rw [List.drop_eq_nil_of_le (by omega)] at hl
    obtain ⟨hc, hl⟩ := Rs.iff_ok hl
    cases hl
    left
    obtain ⟨_, hst⟩ := W1 B3 H3 _ x3 S3 hc
    exact ⟨by rw [hi2]; exact hst, hQ1 B3 H3 σ3 x3 e3 S3 E3⟩
end

/-! ### while -/
def whileZ (t : Fn Bool) (body : Fn Ct) : Nat → Fn Ct
  | 0, _, _ => .bad
  | n + 1, env, s => (t env s).bind fun b s1 => if b = true then (body env s1).bind fun c s2 => match c with
      | .next e => whileZ t body n e s2
      | .cont e => whileZ t body n e s2
      | .brk e => .ok (.next e) s2
      | .ret r => .ok (.ret r) s2
    else .ok (.next env) s1
def fWhile (n : Nat) (t : Fn Bool) (body : Fn Ct) : Fn Ct := whileZ t body n
section
variable {G : Gz} {bs : List Str} {k : Nat} {X : Cx} {N : List Str} {nm : List (Str × NameKind)} {ow : Str → Bool} {a b e tg iter : Expr} {pos p : Pos} {q : Bool} {body : List Stmt} {tc : Fn Bool} {fb : Fn Ct} {is : List Nat}
end
end Z

namespace Z
open PySem PySem.Spec PyProof.Rows L2

/-! ### a comprehension's block -/
def relN (nm names : List (Str × NameKind)) : List (Str × NameKind) := names.map fun (n, k) => if (k == .free && nm.lookup n == some .cell) = true then (n, .cell) else (n, k)
def ownN (names : List (Str × NameKind)) : Str → Bool := fun x => names.lookup x == some .cell
def scD (nm : List (Str × NameKind)) : Scope := { kind := .function, names := nm, isGenerator := false, isCoroutine := false }
def blkZ (N : List Str) (nm : List (Str × NameKind)) (scope : Scope) (own : List (Str × Nat)) : Bool := blkC N (scD nm) scope own
section
variable {G : Gz} {bs : List Str} {k : Nat} {X : Cx} {N : List Str} {nm : List (Str × NameKind)} {ow : Str → Bool}
theorem Cz.blkOk (c : Cz G bs k X N nm ow) {scope : Scope} {own : List (Str × Nat)} (h : blkZ N nm scope own = true) : BlkOk X.N X.env.scope scope own := by
  obtain ⟨h1, h2, h3, h4, h5⟩ := blkOk_by h
  rw [c.hN]
  refine ⟨h1, h2, h3, fun y hy e => ?_, h5⟩
  rw [c.nm]
  exact h4 y hy e
theorem Cz.blk (c : Cz G bs k X N nm ow) {scope : Scope} (hk : scope.kind = .function) (s : Shared) (H : Hp) (C : Addr) (cl : List (Str × Addr)) (fp : List Addr) :
    Cz G bs k (X.blk s H scope (compEnvC scope cl C X.env) fp) N (relN nm scope.names) (ownN scope.names) where
  hN := c.hN
  nd := c.nd
  kd := hk
  nm := by
    show (relabel scope X.env).names = _
    unfold relabel relN
    simp only
    refine List.map_congr_left fun y hy => ?_
    have e : (X.env.scope.kind == ScopeKind.function) = true := by rw [c.kd]; rfl
    have e2 : X.env.kindOf y.1 = nm.lookup y.1 := by show X.env.scope.names.lookup _ = _; rw [c.nm]
    simp only [e, e2, Bool.and_true]
  ow := rfl
  calm := c.calm
  rm := c.rm
  gd := c.gd
  bl := c.bl
  gp := c.gp
  gw := c.gw
  gK := c.gK
  gm := c.gm
  gb := c.gb
  po := PassesOwn.never
end
def wipeZ (env : En) : List Nat → En
  | [] => env
  | v :: vs => (wipeZ env vs).set v none
theorem RpE.wipe {K : PySem.W.Frag} {B : Lo} {H : Hp} {env : En} {σ : L2.St} (h : RpE K B H env σ) : ∀ vs : List Nat, RpE K B H (wipeZ env vs) (wipe σ vs)
  | [] => h
  | v :: vs => (h.wipe vs).unset v
theorem wipe_get {σ : L2.St} {j : Nat} : ∀ {vs : List Nat}, (wipe σ vs)[j]? = if j ∈ vs then (if j < σ.length then some none else none) else σ[j]?
  | [] => by simp [L2.wipe]
  | v :: vs => by
    have ih := wipe_get (σ := σ) (j := j) (vs := vs)
    show ((wipe σ vs).set v none)[j]? = _
    by_cases hj : v = j
    · subst hj
      by_cases hl : v < σ.length
      · rw [List.getElem?_set_self (by rw [wipe_length]; exact hl)]
        simp [hl]
      · rw [List.getElem?_eq_none (by rw [List.length_set, wipe_length]; omega)]
        simp [hl]
    · rw [List.getElem?_set_ne hj, ih]
      simp only [List.mem_cons, show ¬ j = v from fun e => hj e.symm, false_or]
theorem wipe_only {σ σ2 : L2.St} {is vs : List Nat} (h : Only1 is (wipe σ vs) σ2) (hs : ∀ i ∈ is, i ∈ vs) : wipe σ2 vs = wipe σ vs := by
  have hl : σ2.length = σ.length := by rw [h.1, wipe_length]
  apply List.ext_getElem?
  intro j
  rw [wipe_get, wipe_get]
  by_cases hj : j ∈ vs
  · simp [hj, hl]
  · rw [if_neg hj, if_neg hj, h.2 j (fun z => hj (hs j z)), wipe_get, if_neg hj]

/-! ### what lies aside is changed -/
section
variable {K : PySem.W.Frag} {B : Lo} {H : Hp} {s : Sto}
theorem Mo.rehid (S : Sim K B H s) {D : Addr} {o : HO} (h : D ∈ B.hid) : Mo B H B (upd H D o) := by
  obtain ⟨h1, v, h2, hm⟩ := S.hid D h
  refine ⟨List.prefix_refl _, fun b o e _ hb _ => ?_, fun b o e => ?_, fun b o u e => ?_, fun _ z => z.elim .inl fun z => .inr (.inl z), fun b ps e => ⟨ps, ?_⟩⟩
  · rw [upd_ne (fun z => hb (by rw [z]; exact h))]; exact e
  · rw [upd_ne (fun z => by rw [z, h2] at e; cases e; exact hm)]; exact e
  · rw [upd_ne (fun z => by rw [z, h2] at e; cases e; exact hm)]; exact e
  · rw [upd_ne (fun z => by rw [z, h2] at e; cases e; exact hm)]; exact e
theorem Sim.rehid (S : Sim K B H s) {D : Addr} {o : HO} (h : D ∈ B.hid) (ho : MutH (some o) := by trivial) : Sim K B (upd H D o) s := by
  obtain ⟨h1, v, h2, hm⟩ := S.hid D h
  refine ⟨S.nd, S.len, fun n a u e1 e2 => (S.obs n a u e1 e2).mono (Mo.rehid S h) (upd_ne fun z => h1 (by rw [← z]; exact List.mem_of_getElem? e1)), fun b hb => ?_, fun x hx c P q => (S.tabs x hx c P q).mono (Mo.rehid S h) (upd_ne ((S.tabs x hx c P q).ne h2 hm))⟩
  obtain ⟨h3, zs, h4, h5⟩ := S.hid b hb
  refine ⟨h3, ?_⟩
  by_cases hd : b = D
  · rw [hd]; exact ⟨o, upd_same, ho⟩
  · exact ⟨zs, (upd_ne hd).trans h4, h5⟩
end

/-! ### [elt for target in iter if ..] -/
def lcZ (chk : Sto → Bool) (own : List Nat) (g : Dv → Fn En) (tt : Fn Bool) (te : Fn Dv) : List Dv → Fn (List Dv)
  | [], _, s => Rs.iff (chk s) (.ok [] s)
  | d :: ds, env, s => Rs.iff (chk s) ((g d (wipeZ env own) s).bind fun env1 s1 => (tt env1 s1).bind fun b s2 => if b = true then (te env1 s2).bind fun y s3 => (lcZ chk own g tt te ds env s3).bind fun ys s4 => .ok (y :: ys) s4
      else lcZ chk own g tt te ds env s2)
def fLc (fi : Fn Src) (own : List Nat) (g : Dv → Fn En) (tt : Fn Bool) (te : Fn Dv) : Fn (List Dv) := fun env s => (fi env s).bind fun src s1 => Rs.iff (decide (src.1.length < 16777216)) (lcZ src.2 own g tt te src.1 env s1)
def fYes : Fn Bool := fun _ s => .ok true s
abbrev ZTs (X : Cx) (ifs : List Expr) (f : Fn Bool) : Prop := PTs X ifs (tOfT X.K f)
theorem pts_mono {X : Cx} {e : List Expr} {t t' : TT} (h : PTs X e t) (hh : ∀ σ H Q, t' σ H Q → t σ H Q) : PTs X e t' := ⟨fun pins s σ H Q I q => h.run pins s σ H Q I (hh _ _ _ q)⟩
theorem zts_nil {X : Cx} : ZTs X [] fYes := pts_mono pts_nil fun σ H Q q => by
  obtain ⟨B, env, s, b, s', hE, hS, hf, hQ⟩ := q
  cases hf
  exact hQ B H (Ext.refl _ _) rfl hS
theorem zts_one {X : Cx} {c : Expr} {f : Fn Bool} (h : ZT X c f) : ZTs X [c] f := pts_one h
theorem lc_to {K : PySem.W.Frag} {q : Bool} {fi : Fn Src} {is own : List Nat} {g : Dv → Fn En} {tt : Fn Bool} {te : Fn Dv} (his : ∀ i ∈ is, i ∈ own) :
    ∀ σ H Q, tOfL K (fLc fi own g tt te) σ H Q → tLc (tOfI K q fi) (tOfG K q is g) (tOfT K tt) (tOf K te) own σ H Q := fun σ H Q h => by
  obtain ⟨B, env, s, rs, s', hE, hS, hf, hQ⟩ := h
  obtain ⟨src, s1, h1, hf⟩ := Rs.bind_ok hf
  obtain ⟨hz, hf⟩ := Rs.iff_ok hf
  have hz : src.1.length < 16777216 := of_decide_eq_true hz
  refine ⟨B, env, s, _, _, hE, hS, h1, fun B1 H1 J x1 e1 S1 W1 D hD => ?_⟩
  have nD : D ∉ B1.hid := S1.freeH hD
  have nL : D ∉ B1.locs := S1.free hD
  have D0 : H D = none := x1.was_none hD fun z => nL (x1.mo.pre.subset z)
  refine ⟨fun i m H3 => m = src.1.length - i ∧ i ≤ src.1.length ∧ ∃ (L3 : List Addr) (s3 : Sto) (acc rest : List Dv) (accV : List V), Ext B1 H1 ⟨L3, D :: B1.hid⟩ H3 ∧ Sim K ⟨L3, D :: B1.hid⟩ H3 s3 ∧ RpE K ⟨L3, D :: B1.hid⟩ H3 env σ ∧
      H3 D = some (.lst accV) ∧ Rps K ⟨L3, D :: B1.hid⟩ H3 acc accV ∧ acc.length ≤ i ∧ lcZ src.2 own g tt te (src.1.drop i) env s3 = .ok rest s' ∧ acc ++ rest = rs,
    ⟨_, rfl, Nat.zero_le _, B1.locs, s1, [], rs, [], Ext.aside hD, S1.aside hD, hE.mono (x1.mo.trans (Mo.aside hD)), upd_same, .nil, Nat.le_refl _, hf, rfl⟩, fun i m H3 w => ?_⟩
  obtain ⟨rfl, hi, L3, s3, acc, rest, accV, x3, S3, E3, hd, ra, hal, hl, hr⟩ := w
  by_cases hlt : i < src.1.length
  · have hdr : src.1.drop i = src.1[i] :: src.1.drop (i + 1) := List.drop_eq_getElem_cons hlt
    rw [hdr] at hl
    obtain ⟨hc, hl⟩ := Rs.iff_ok hl
    obtain ⟨hgo, _⟩ := W1 _ H3 s3 x3 S3 hc
    obtain ⟨go, yl⟩ := hgo i src.1[i] (List.getElem?_eq_getElem hlt)
    obtain ⟨env4, s4, h4, hl⟩ := Rs.bind_ok hl
    obtain ⟨b5, s5, h5, hl⟩ := Rs.bind_ok hl
    right
    refine ⟨go, fun H' => ∃ (L5 : List Addr) (s6 : Sto) (acc rest : List Dv) (accV : List V), Ext B1 H1 ⟨L5, D :: B1.hid⟩ H' ∧ Sim K ⟨L5, D :: B1.hid⟩ H' s6 ∧ RpE K ⟨L5, D :: B1.hid⟩ H' env σ ∧
      H' D = some (.lst accV) ∧ Rps K ⟨L5, D :: B1.hid⟩ H' acc accV ∧ acc.length ≤ i + 1 ∧ lcZ src.2 own g tt te (src.1.drop (i + 1)) env s6 = .ok rest s' ∧ acc ++ rest = rs, fun H' hN => ?_, fun x H' hy => ?_⟩
    · obtain ⟨L5, s6, acc, rest, accV, hh⟩ := hN
      exact ⟨_, by omega, rfl, hlt, L5, s6, acc, rest, accV, hh⟩
    · obtain ⟨x6, S6, r6⟩ := yl x H' hy
      have d6 : H' D = some (.lst accV) := x6.keepH D _ hd List.mem_cons_self
      refine ⟨_, wipeZ env own, s3, _, _, _, (E3.mono x6.mo).wipe own, S6, r6, h4, fun B7 H7 σ7 x7 e7 S7 E7 o7 => ⟨wipe_only o7 his, ?_⟩⟩
      refine ⟨B7, env4, s4, b5, s5, E7, S7, h5, fun B8 H8 x8 e8 S8 => ?_⟩
      have hh8 : B8.hid = D :: B1.hid := e8.trans e7
      obtain ⟨L8, h8⟩ := B8
      simp only at hh8
      subst hh8
      have xx : Ext B1 H1 ⟨L8, D :: B1.hid⟩ H8 := x3.trans (x6.trans (x7.trans x8))
      have mm : Mo ⟨L3, D :: B1.hid⟩ H3 ⟨L8, D :: B1.hid⟩ H8 := (x6.trans (x7.trans x8)).mo
      have d8 : H8 D = some (.lst accV) := (x7.trans x8).keepH D _ d6 List.mem_cons_self
      split at hl
      · rename_i hb
        show if b5 = true then _ else _
        rw [if_pos hb]
        obtain ⟨y, s9, h9, hl⟩ := Rs.bind_ok hl
        obtain ⟨ys, s10, h10, hl⟩ := Rs.bind_ok hl
        cases hl
        refine ⟨⟨L8, D :: B1.hid⟩, env4, s5, _, _, E7.mono x8.mo, S8, h9, fun B9 H9 v x9 e9 S9 r9 => ?_⟩
        obtain ⟨L9, hid9⟩ := B9
        simp only at e9
        subst e9
        have d9 : H9 D = some (.lst accV) := x9.keepH D _ d8 List.mem_cons_self
        have ra9 := (ra.mono mm).mono x9.mo
        have hm9 : D ∈ (⟨L9, D :: B1.hid⟩ : Lo).hid := List.mem_cons_self
        have mr := Mo.rehid (o := .lst (accV ++ [v])) S9 hm9
        refine ⟨accV, d9, ?_, L9, s9, acc ++ [y], ys, accV ++ [v], (xx.trans x9).rewrite hD, S9.rehid hm9, (E3.mono (mm.trans x9.mo)).mono mr, upd_same, (ra9.append (.cons r9 .nil)).mono mr, ?_, h10, ?_⟩
        · rw [← ra9.length, sizeLine_eq]; omega
        · rw [List.length_append, List.length_singleton]; omega
        · rw [← hr, List.append_assoc]; rfl
      · rename_i hb
        show if b5 = true then _ else _
        rw [if_neg hb]
        exact ⟨L8, s5, acc, rest, accV, xx, S8, E3.mono mm, d8, ra.mono mm, by omega, hl, hr⟩
  · have hi2 : i = src.1.length := by omega
    rw [List.drop_eq_nil_of_le (by omega)] at hl
    obtain ⟨hc, hl⟩ := Rs.iff_ok hl
    cases hl
    left
    obtain ⟨_, hst⟩ := W1 _ H3 _ x3 S3 hc
    rw [List.append_nil] at hr
    subst hr
    exact ⟨by rw [hi2]; exact hst, hQ ⟨L3, B1.hid⟩ H3 D accV (x1.trans x3) e1 S3 nD D0 hd ra⟩
section
variable {G : Gz} {bs : List Str} {k : Nat} {X : Cx} {N : List Str} {nm : List (Str × NameKind)} {ow : Str → Bool} {elt tg iter : Expr} {ifs : List Expr} {scope : Scope} {own : List (Str × Nat)} {pos : Pos} {q : Bool} {fi : Fn Src} {is : List Nat} {g : Dv → Fn En} {tt : Fn Bool} {te : Fn Dv}
theorem z_lc (c : Cz G bs k X N nm ow) (own : List (Str × Nat)) (hi : ZI X q tg iter fi)
    (hin : ∀ X' : Cx, Cz G bs k X' N (relN nm scope.names) (ownN scope.names) → ZG X' q is tg g ∧ ZTs X' ifs tt ∧ ZE X' elt te)
    (ok : blkZ N nm scope own = true := by decide +kernel) (hk : scope.kind = .function := by rfl) (his : is.all (fun i => (own.map (·.2)).contains i) = true := by decide +kernel) (hs : ∀ x, foldedSetIterable iter X.env x = pure x := by intro _; rfl) :
    ZL X (.ListComp elt [⟨tg, iter, ifs, 0⟩] scope pos) (fLc fi (own.map (·.2)) g tt te) := by
  have nd : X.N.Nodup := by rw [c.hN]; exact c.nd
  have hcs := fun s H C cl fp => hin _ (c.blk hk s H C cl fp)
  refine pe_mono (pe_lc (own := own) c.calm nd hi (c.blkOk ok) (fun s H C cl fp => (hcs s H C cl fp).1) (fun s H C cl fp => (hcs s H C cl fp).2.1) (fun s H C cl fp => (hcs s H C cl fp).2.2) hs) (lc_to fun i hi => ?_)
  have := List.all_eq_true.mp his i hi
  exact List.contains_iff_mem.mp this
end
end Z

namespace Z
open PySem PySem.Spec PyProof.Rows L2

/-! ### what a def leaves behind it -/
mutual
/-- no place of the store from b on is named in it -/
def below (b : Nat) : Dv → Bool
  | .tup ds => belows b ds
  | .ls ds => belows b ds
  | .loc n => decide (n < b)
  | .xn _ _ _ fs => belows b fs
  | _ => true
def belows (b : Nat) : List Dv → Bool
  | [] => true
  | d :: r => below b d && belows b r
end
def belowO (b : Nat) : Ob → Bool
  | .lst ds => belows b ds
  | .dk kvs => kvs.all fun p => below b p.2
  | .dt kvs => kvs.all fun p => below b p.2
section
variable {K : PySem.W.Frag} {B' : Lo} {H : Hp} {L h : List Addr} {b : Nat}
mutual
theorem Rp.cut (hp : L <+: B'.locs) (hb : L.length = b) (hh : ∀ a ∈ h, a ∈ B'.hid) : ∀ {d : Dv} {v : V}, Rp K B' H d v → below b d = true → Rp K ⟨L, h⟩ H d v
  | _, _, .non, _ => .non
  | _, _, .bl b, _ => .bl b
  | _, _, .int b, _ => .int b
  | _, _, .str b, _ => .str b
  | _, _, .tup h1 h2, e => .tup h1 (Rps.cut hp hb hh h2 (by simpa [below] using e))
  | _, _, .ls h1 h2, e => by
    refine .ls ?_ (Rps.cut hp hb hh h2 (by simpa [below] using e))
    rcases h1 with ⟨q1, q2, q3⟩ | q | q
    · exact .inl ⟨q1, fun z => q2 (hp.subset z), fun z => q3 (hh _ z)⟩
    · exact .inr (.inl q)
    · exact .inr (.inr q)
  | _, _, @Rp.loc _ _ _ n a h1, e => .loc (by
    have hl : n < b := by simpa [below] using e
    obtain ⟨t, ht⟩ := hp
    rw [← ht, List.getElem?_append_left (by rw [hb]; exact hl)] at h1
    exact h1)
  | _, _, .xn h n m l r, e => .xn h (fun z => n (hp.subset z)) (fun z => m (hh _ z)) l (Rps.cut hp hb hh r (by simpa [below] using e))
theorem Rps.cut (hp : L <+: B'.locs) (hb : L.length = b) (hh : ∀ a ∈ h, a ∈ B'.hid) : ∀ {d : List Dv} {v : List V}, Rps K B' H d v → belows b d = true → Rps K ⟨L, h⟩ H d v
  | _, _, .nil, _ => .nil
  | _, _, @Rps.cons _ _ _ d _ ds _ h1 h2, e => by
    have e' : below b d = true ∧ belows b ds = true := by simpa [belows] using e
    exact .cons (Rp.cut hp hb hh h1 e'.1) (Rps.cut hp hb hh h2 e'.2)
end
theorem paired_cut {κ : Type} (hp : L <+: B'.locs) (hb : L.length = b) (hh : ∀ a ∈ h, a ∈ B'.hid) : ∀ {kvs : List (κ × Dv)} {ks : List (κ × V)}, Paired (fun (p : κ × Dv) (q : κ × V) => p.1 = q.1 ∧ Rp K B' H p.2 q.2) kvs ks → (kvs.all fun p => below b p.2) = true →
    Paired (fun (p : κ × Dv) (q : κ × V) => p.1 = q.1 ∧ Rp K ⟨L, h⟩ H p.2 q.2) kvs ks
  | _, _, .nil, _ => .nil
  | _, _, .cons r t, e => by
    rw [List.all_cons, Bool.and_eq_true] at e
    exact .cons ⟨r.1, r.2.cut hp hb hh e.1⟩ (paired_cut hp hb hh t e.2)
theorem RpO.cut (hp : L <+: B'.locs) (hb : L.length = b) (hh : ∀ a ∈ h, a ∈ B'.hid) {a : Addr} {o : Ob} (r : RpO K B' H a o) (e : belowO b o = true) : RpO K ⟨L, h⟩ H a o := by
  cases o with
  | lst ds => obtain ⟨xs, h1, h2⟩ := r; exact ⟨xs, h1, h2.cut hp hb hh e⟩
  | dk kvs => obtain ⟨xs, h1, h2⟩ := r; exact ⟨xs, h1, paired_cut hp hb hh h2 e⟩
  | dt kvs => obtain ⟨xs, h1, h2⟩ := r; exact ⟨xs, h1, paired_cut hp hb hh h2 e⟩
end
def keepsZ (b : Nat) (s : Sto) : Bool := (s.take b).all (belowO b)
def gcZ (b : Nat) (d : Dv) (s : Sto) : Rs Dv :=
  if (below b d && keepsZ b s) = true then .ok d (s.take b)
  else match d with
    | .loc n => match s[n]? with
      | some (.lst ds) => if (decide (b ≤ n) && belows b ds && keepsZ b s) = true then .ok (.ls ds) (s.take b) else .ok d s
      | _ => .ok d s
    | _ => .ok d s
/-- what the caller wants, ahead of the cleaning -/
theorem gc_ok {K : PySem.W.Frag} {B : Lo} {H : Hp} {s s1 s2 : Sto} {d e : Dv} {Q : VK} (S : Sim K B H s) (hg : gcZ s.length d s1 = .ok e s2) (hQ : PostZ K B H s2 e Q) : PostZ K B H s1 d Q := by
  intro B' H' v x eh S' r
  have hlen : B.locs.length = s.length := S.len
  have cut : keepsZ s.length s1 = true → ∀ {f : Dv} {u : V}, (∃ L : Lo, L = ⟨B.locs, B'.hid⟩ ∧ Rp K L H' f u) → PostZ K B H (s1.take s.length) f Q → Q u H' := fun hk {f u} ⟨L, eL, ru⟩ hq => by
    subst eL
    refine hq ⟨B.locs, B'.hid⟩ H' u ⟨⟨List.prefix_refl _, x.mo.keep, x.mo.tups, x.mo.frzs, fun b z => x.mo.new b (z.elim (fun z => .inl (x.mo.pre.subset z)) .inr), x.mo.tbls⟩, x.keepH, x.sub, fun b z => .inl z⟩ eh ?_ ru
    refine ⟨S.nd, ?_, fun n a o e1 e2 => ?_, fun b hb => ?_, fun y hy c P q => (S'.tabs y hy c P q).cut x.mo.pre⟩
    · rw [List.length_take, ← S'.len]
      have := x.mo.pre.length_le
      show B.locs.length = _
      omega
    · have hn : n < s.length := by rw [← hlen]; exact (List.getElem?_eq_some_iff.mp e1).1
      rw [List.getElem?_take_of_lt hn] at e2
      have hb : belowO s.length o = true := by
        refine List.all_eq_true.mp hk o (List.mem_of_getElem? (i := n) ?_)
        rw [List.getElem?_take_of_lt hn]; exact e2
      exact (S'.obs n a o (pre_get x.mo.pre e1) e2).cut x.mo.pre hlen (fun _ z => z) hb
    · obtain ⟨h1, h2⟩ := S'.hid b hb
      exact ⟨fun z => h1 (x.mo.pre.subset z), h2⟩
  unfold gcZ at hg
  split at hg
  · rename_i hc
    rw [Bool.and_eq_true] at hc
    cases hg
    exact cut hc.2 ⟨_, rfl, r.cut x.mo.pre hlen (fun _ z => z) hc.1⟩ hQ
  · split at hg
    · rename_i n _
      split at hg
      · rename_i ds e1
        split at hg
        · rename_i hc
          rw [Bool.and_eq_true, Bool.and_eq_true] at hc
          have hbn : s.length ≤ n := of_decide_eq_true hc.1.1
          cases hg
          cases r with
          | @loc _ a hl =>
            obtain ⟨o, ho, ro⟩ := S'.at hl
            rw [e1] at ho; cases ho
            obtain ⟨xs, h1, h2⟩ := ro
            refine cut hc.2 ⟨_, rfl, .ls (.inl ⟨h1, fun z => ?_, fun z => (S'.hid _ z).1 (List.mem_of_getElem? hl)⟩) (h2.cut x.mo.pre hlen (fun _ z => z) hc.1.2)⟩ hQ
            obtain ⟨m, hm⟩ := List.getElem?_of_mem z
            have hm2 := pre_get x.mo.pre hm
            obtain ⟨q1, q2⟩ := List.getElem?_eq_some_iff.mp hl
            obtain ⟨q3, q4⟩ := List.getElem?_eq_some_iff.mp hm2
            have em : n = m := (List.getElem_inj S'.nd).mp (q2.trans q4.symm)
            have hlt : m < B.locs.length := (List.getElem?_eq_some_iff.mp hm).1
            omega
        · cases hg
          exact hQ B' H' v x eh S' r
      · cases hg
        exact hQ B' H' v x eh S' r
    · cases hg
      exact hQ B' H' v x eh S' r

/-! ### defs -/
def fDef (n m : Nat) (body : Fn Ct) (ds : List Dv) (s : Sto) : Rs Dv :=
  Rs.iff (ds.length == n) ((body (ds.map some ++ List.replicate (m - n) none) s).bind fun c s1 => match c with
    | .next _ => gcZ s.length .non s1
    | .ret d => gcZ s.length d s1
    | _ => .bad)
abbrev Phi := List Dv → Sto → Rs Dv
def spZ (K : PySem.W.Frag) (n : Nat) (φ : Phi) : Sp := fun vs H Q _ => vs.length = n ∧ ∃ B ds s d s', Rps K B H ds vs ∧ Sim K B H s ∧ φ ds s = .ok d s' ∧ PostZ K B H s' d Q
/-- a def at f keeps its promise, wherever no thing's text is being written -/
structure FnZ (G : Gz) (k : Nat) (f : Addr) (fd : FuncData) (ps : List Str) (sp : Sp) : Prop where
  run : ∀ (A : Around) (outer : List Env) (s : Shared) (H : Hp) (args : Args) (us : List Value) (vs : List V) (Q : VK), A.guards = some [] → Room k A → Env0 G.prog G.w G.K G.mg G.base A outer s H → BindsTo s fd args (ps.zip us) → Vals vs us → sp vs H Q E0 →
    codeAny (model G.prog G.w) A (.call (.ref f) args) (CR CX0 outer G.prog G.w H s Q E0) s
theorem FnZ.mono {G : Gz} {j k : Nat} {f : Addr} {fd : FuncData} {ps : List Str} {sp : Sp} (F : FnZ G j f fd ps sp) (h : j ≤ k) : FnZ G k f fd ps sp :=
  ⟨fun A outer s H args us vs Q hg hr => F.run A outer s H args us vs Q hg (hr.mono h)⟩
/-- the def x of the module, asked by its places -/
structure Fz (G : Gz) (k : Nat) (x : Str) (n : Nat) (φ : Phi) : Prop where
  len : ∀ ds s d s', φ ds s = .ok d s' → ds.length = n
  ex : ∃ (f : Addr) (fd : FuncData) (ps : List Str), G.mg x = some (.ref f) ∧ PySem.W.keepIn G.K (.ref f) = true ∧ Binds G.K fd ps [] ∧ ps.length = n ∧ FnZ G k f fd ps (spZ G.K n φ)
theorem Fz.mono {G : Gz} {j k : Nat} {x : Str} {n : Nat} {φ : Phi} (F : Fz G j x n φ) (h : j ≤ k) : Fz G k x n φ := by
  obtain ⟨f, fd, ps, h1, h2, h3, h4, h5⟩ := F.ex
  exact ⟨F.len, f, fd, ps, h1, h2, h3, h4, h5.mono h⟩
theorem start_rp {K : PySem.W.Frag} {B : Lo} {H : Hp} {ds : List Dv} {vs : List V} {N : List Str} (r : Rps K B H ds vs) : RpE K B H (ds.map some ++ List.replicate (N.length - ds.length) none) (start N vs) := by
  have hl := r.length
  refine ⟨by simp [L2.start, hl], fun i d e => ?_⟩
  unfold L2.start
  by_cases hi : i < ds.length
  · rw [List.getElem?_append_left (by simpa using hi), List.getElem?_map] at e
    cases e2 : ds[i]? with
    | none => rw [e2] at e; cases e
    | some d' =>
      rw [e2] at e
      have e3 : d' = d := by simpa using e
      subst e3
      obtain ⟨v, h1, h2⟩ := r.get e2
      refine ⟨v, ?_, h2⟩
      rw [List.getElem?_append_left (by simpa [← hl] using hi), List.getElem?_map, h1]
      rfl
  · rw [List.getElem?_append_right (by simpa using hi), List.getElem?_replicate] at e
    split at e <;> cases e
/-- a def of the text, by its body -/
theorem z_fnQ {G : Gz} {bs : List Str} {k : Nat} {x qual : Str} {st : Stmt} {f : Addr} {fd : FuncData} {N ps : List Str} {nm : List (Str × NameKind)} {body : Fn Ct} (F : Fun G.K x qual st f fd) (S : FnScope N ps (defScope st)) (hnm : (defScope st).names = nm)
    (hbl : ∀ y ∈ bs, G.mg y = none) (hbody : ∀ X : Cx, Cz G bs k X N nm (fun _ => true) → X.stack = X.env :: X.outer → X.env.frame = some X.env.locals → X.env.qual = qual ++ (".<locals>." : Str) → X.env.code = fd.code → ZB X (defBody st) body) : FnZ G (k + 1) f fd ps (spZ G.K ps.length (fDef ps.length N.length body)) := by
  obtain ⟨oc, od, kV, doc, pm, an, cdv, ct, osl, rfl, lk, hcd⟩ := F.ex
  refine ⟨fun A outer s H args us vs Q hgd hr e0 hb r hsp => ?_⟩
  obtain ⟨hvl, B, ds, st0, d, st1, rd, S0, hf, hQ⟩ := hsp
  have KX : G.K.In s.heap := e0.mod.kin.keeps fun b o e => (e0.bs b o e).1
  have lim : s.heap.NoLimit := e0.mod.nolimit.keeps fun b o e => (e0.bs b o e).1
  have hkind : ∀ y ∈ ps.zip us, (defScope st).names.lookup y.1 = some .local ∨ ((defScope st).names.lookup y.1 = some .cell ∧ ((cellsFrom (s.heap.objs.size + 1) (defScope st).names []).lookup y.1).isSome = true) := fun ⟨n, v⟩ hy => by
    rcases S.par n (List.of_mem_zip hy).1 with q | q
    · exact .inl q
    · exact .inr ⟨q, PySem.W.cellsFrom_some _ _ _ (.inl q)⟩
  refine codeAny_call_function hr.depth (KX _ _ lk) rfl S.co S.gen rfl (PySem.W.codeRec_of KX hcd) (hb _ _ _ _ ?_)
  refine wpAny_newFunctionEnv_cells S.kind hkind fun env he s1 x1 => ?_
  subst he
  refine ⟨lim.keeps x1.toInCall.keep, codeAny_func ?_⟩
  obtain ⟨hdl, hf⟩ := Rs.iff_ok hf
  have hdl : ds.length = ps.length := beq_iff_eq.mp hdl
  obtain ⟨c, s2, hbd, hf⟩ := Rs.bind_ok hf
  have I0 := inv_start (CX := CX0) (E := E0) S hr.hd e0 hvl r x1
  have I : Inv (cxOf CX0 G.prog G.w G.K G.mg G.base N qual (defScope st) f cdv A outer s H E0).nox [] (start N vs) H s1 := I0.wish _
  have cz : Cz G bs k (cxOf CX0 G.prog G.w G.K G.mg G.base N qual (defScope st) f cdv A outer s H E0).nox N nm (fun _ => true) :=
    ⟨rfl, S.nd, S.kind, hnm, rfl, rfl, hr.deeper _, hgd, hbl, rfl, rfl, rfl, rfl, rfl, PassesOwn.never⟩
  have hz := (hbody _ cz rfl rfl rfl rfl).run [] s1 (start N vs) H { nx := fun _ H' => Q .non H', rt := Q } I ⟨B, _, st0, c, s2, start_rp (N := N) rd, S0, by rw [hdl]; exact hbd, ?_⟩
  · refine wpAny_mono hz (fun fl s' hs => ?_) fun _ _ z => False.elim z
    have fin : ∀ {σ' : L2.St} {H' : Hp} {v : V} {u : Value}, Inv (cxOf CX0 G.prog G.w G.K G.mg G.base N qual (defScope st) f cdv A outer s H E0).nox [] σ' H' s' → RelV v u → Q v H' → CE outer G.prog G.w H s Q u s' :=
      fun {σ' H' v u} J rv q => ⟨v, H', J.os, J.bare, J.base, J.hok, rv, q⟩
    cases fl with
    | ret u => obtain ⟨v, σ', H', J, rv, q⟩ := hs; exact fin J rv q
    | next => obtain ⟨σ', H', J, q⟩ := hs; exact fin (v := V.non) (u := Value.none) J rfl q
    | brk => obtain ⟨_, _, _, q⟩ := hs; exact False.elim q
    | cont => obtain ⟨_, _, _, q⟩ := hs; exact False.elim q
  · cases c with
    | next env => exact fun B' H' σ' x e S' _ => gc_ok S0 hf hQ B' H' .non x e S' .non
    | ret d' => exact fun B' H' v x e S' r => gc_ok S0 hf hQ B' H' v x e S' r
    | brk _ => cases hf
    | cont _ => cases hf
theorem z_fnT {G : Gz} {bs : List Str} {k : Nat} {x qual : Str} {st : Stmt} {f : Addr} {fd : FuncData} {N ps : List Str} {nm : List (Str × NameKind)} {body : Fn Ct} (F : Fun G.K x qual st f fd) (S : FnScope N ps (defScope st)) (hnm : (defScope st).names = nm)
    (hbl : ∀ y ∈ bs, G.mg y = none) (hbody : ∀ X : Cx, Cz G bs k X N nm (fun _ => true) → X.stack = X.env :: X.outer → X.env.frame = some X.env.locals → ZB X (defBody st) body) : FnZ G (k + 1) f fd ps (spZ G.K ps.length (fDef ps.length N.length body)) := z_fnQ F S hnm hbl fun X c h1 h2 _ _ => hbody X c h1 h2
theorem z_fn {G : Gz} {bs : List Str} {k : Nat} {x qual : Str} {st : Stmt} {f : Addr} {fd : FuncData} {N ps : List Str} {nm : List (Str × NameKind)} {body : Fn Ct} (F : Fun G.K x qual st f fd) (S : FnScope N ps (defScope st)) (hnm : (defScope st).names = nm)
    (hbl : ∀ y ∈ bs, G.mg y = none) (hbody : ∀ X : Cx, Cz G bs k X N nm (fun _ => true) → ZB X (defBody st) body) : FnZ G (k + 1) f fd ps (spZ G.K ps.length (fDef ps.length N.length body)) := z_fnT F S hnm hbl fun X c _ _ => hbody X c
def fCall (φ : Phi) (f : Fn (List Dv)) : Fn Dv := fun env s => (f env s).bind φ
section
variable {G : Gz} {bs : List Str} {k : Nat} {X : Cx} {N : List Str} {nm : List (Str × NameKind)} {ow : Str → Bool} {x : Str} {e : Expr} {es : List Expr} {p pos : Pos} {fs : Fn (List Dv)} {n : Nat} {φ : Phi}
theorem run_fnZ (c : Cz G bs k X N nm ow) {f : Addr} {fd : FuncData} {ps : List Str} (hb : Binds G.K fd ps []) (hn : ps.length = n) (F : FnZ G k f fd ps (spZ G.K n φ)) {pins : List (Addr × Obj)} {σ : L2.St} {H : Hp} {s : Shared} {Q : VK} {us : List Value} {vs : List V}
    (I : Inv X pins σ H s) (r : Vals vs us) (h : spZ X.K n φ vs H Q E0) : wpAny (model X.prog X.w) X.A (call (.ref f) us) (EP X pins σ Q) X.xe s := by
  have hl : (us ++ []).length = ps.length := by rw [List.append_nil, ← r.length, h.1, hn]
  have hbind := hb s us (by rw [← c.gK]; exact I.kIn) hl
  rw [List.append_nil] at hbind
  have e0 := I.env0
  rw [c.gp, c.gw, c.gK, c.gm, c.gb] at e0
  rw [c.gK] at h
  have run := F.run X.A X.stack s H ⟨us, []⟩ us vs Q c.gd c.rm e0 hbind r h
  rw [← c.gp, ← c.gw] at run
  refine wpAny_call (codeAny_mono run fun r s' hq => ?_)
  cases r with
  | error e => exact False.elim hq
  | ok fl =>
    cases fl with
    | ret u => exact I.after hq
    | next => exact False.elim hq
    | brk => exact False.elim hq
    | cont => exact False.elim hq
/-- a def of the module is called -/
theorem z_call (c : Cz G bs k X N nm ow) (F : Fz G k x n φ) (ha : ZA X (e :: es) fs) (hg : gOk nm x = true := by decide +kernel) (hn : (e :: es).length = n := by rfl) (hdb : (x == ("__debug__" : Str)) = false := by decide +kernel)
    (he : starEach (e :: es) X.env = (false, eval e X.env) :: starEach es X.env := by rfl) (hpl : (backTo pos (starEach es X.env)).any (·.1) = false := by rfl) :
    ZE X (.Call (.Name x p) (e :: es) [] pos) (fCall φ fs) := by
  obtain ⟨f, fd, ps, h1, h2, h3, h4, h5⟩ := F.ex
  refine ⟨fun pins s σ H Q I h => ?_⟩
  refine wpAny_Call_Name_kw (ld_glob I (c.gl hg) (by rw [c.gm]; exact h1) ?_ hdb)
  obtain ⟨B, env, st, d, st', hE, hS, hf, hQ⟩ := h
  obtain ⟨ds, st1, hf1, hf⟩ := Rs.bind_ok hf
  refine PySem.W.callWith_K (h₀ := X.base) I.ok.mod.kin (by rw [c.gK]; exact h2) (thn (ha.run pos pins s σ H (fun vs H1 => spZ X.K n φ vs H1 Q E0) I ⟨B, env, st, ds, st1, hE, hS, hf1, fun B1 H1 vs x1 e1 S1 r1 => ?_⟩) fun us s1 ⟨vs, H1, I1, r, q⟩ => ⟨I1.kIn, ?_⟩) he hpl
  · exact ⟨by rw [← r1.length]; exact F.len _ _ _ _ hf, B1, ds, st1, d, st', r1, S1, hf, fun B2 H2 v x2 e2 S2 r2 => hQ B2 H2 v (x1.trans x2) (e2.trans e1) S2 r2⟩
  · exact run_fnZ c h3 h4 h5 I1 r q
end
end Z

namespace Z
open PySem PySem.Spec PyProof.Rows L2

/-! ### the law's end -/
theorem rps_ints {K : PySem.W.Frag} {B : Lo} {H : Hp} : ∀ ns : List Int, Rps K B H (ns.map Dv.int) (ns.map V.int)
  | [] => .nil
  | n :: r => .cons (.int n) (rps_ints r)
/-- where the tables of the defs that make lambdas lie, all of them empty yet -/
def TabsT (K : PySem.W.Frag) (h : Heap) : Prop := ∀ x ∈ tabN, ∀ c P, PySem.W.tabIn K x = some (c, P) → h.get? P = some (PySem.W.tabObj #[]) ∧ K.lookup P = none ∧ PySem.W.CodeHd h c P
def TabsB (K : PySem.W.Frag) (mg : Str → Option Value) (base : Heap) : Prop := ∀ x ∈ tabN, ∀ c P, PySem.W.tabIn K x = some (c, P) → LamX.TabB base mg c P
def isTab (K : PySem.W.Frag) (b : Addr) : Prop := ∃ x ∈ tabN, ∃ c, PySem.W.tabIn K x = some (c, b)
theorem endZ {P : Program} {w : World} {K : PySem.W.Frag} {mg mb : Str → Option Value} {k : Nat} {fa a : Addr} {fd : FuncData} {x : Str} {φ : Phi} {s₁ : Shared} {vs : List Value} {ns : List Int}
    (KX : K.In s₁.heap) (hns : s₁.heap.Ns mainGlobals mg) (hb : s₁.heap.Ns builtinsNs mb) (hbb : ∀ x : Str, x ≠ "__name__" → mb x = bootBuiltins x) (hlim : s₁.heap.NoLimit) (hg : s₁.gens = #[])
    (ha : s₁.heap.get? a = some { cls := .type "list", data := .seq vs.toArray }) (hi : IntsAre vs ns) (hl : ns.length ≤ sizeLine) (hr : Room k callerA)
    (hbm : ∃ (bm : Addr) (ob : Obj), mg "__builtins__" = some (.ref bm) ∧ bm ≠ builtinsNs ∧ s₁.heap.get? bm = some ob ∧ ob.cls = .type "module" ∧ ob.dict = some builtinsNs ∧ ob.data = .plain)
    (TT : TabsT K s₁.heap)
    (F : ∀ base : Heap, K.In base → base.Ns mainGlobals mg → TabsB K mg base → FnZ ⟨P, w, K, mg, base⟩ k fa fd [x] (spZ K 1 φ)) (hbind : ∀ (s : Shared) (u : Value), BindsTo s fd ⟨[u], []⟩ [(x, u)])
    (hφ : ∃ s', φ [.ls (ns.map .int)] [] = .ok (.bl true) s') :
    codeAny (model P w) callerA (.call (.ref fa) ⟨[.ref a], []⟩) (fun r s' => r = .ok (.ret (.bool true)) ∧ OldK s₁.heap s'.heap ∧ s'.os = s₁.os ∧ AllBare s'.gens) s₁ := by
  have rv : Vals (ns.map V.int) vs := vals_ints hi
  have lenV := hi.length
  let ob : Obj := { cls := .type "list", data := .seq vs.toArray }
  have tabA : ∀ b, isTab K b → s₁.heap.get? b = some (PySem.W.tabObj #[]) := fun b ⟨x, hx, c, e⟩ => (TT x hx c b e).1
  have notTab : ∀ {b : Addr} {o : Obj}, s₁.heap.get? b = some o → o ≠ PySem.W.tabObj #[] → ¬ isTab K b := fun {b o} e n z => n (Option.some.inj (e.symm.trans (tabA b z)))
  -- the abstract heap at the entry: the script, the tables
  have core : ∀ H : Hp, (∀ b u, H b = some u → (b = a ∧ u = .frz ob (.lst (ns.map V.int)) ∧ K.lookup a = none) ∨ (isTab K b ∧ u = .tbl #[])) → (∀ b, isTab K b → H b = some (.tbl #[])) → Ls K ⟨[], []⟩ H a (ns.map V.int) →
      codeAny (model P w) callerA (.call (.ref fa) ⟨[.ref a], []⟩) (fun r s' => r = .ok (.ret (.bool true)) ∧ OldK s₁.heap s'.heap ∧ s'.os = s₁.os ∧ AllBare s'.gens) s₁ := by
    intro H hA hT hS
    have hok : HOk P w H s₁.heap := fun b u e => by
      rcases hA b u e with ⟨rfl, rfl, _⟩ | ⟨z, rfl⟩
      · exact ⟨ha, by rw [List.length_map]; exact hl, vs, _, rv, ha⟩
      · exact tabA b z
    have free : ∀ {b : Addr} {o : Obj}, s₁.heap.get? b = some o → o ≠ ob → o ≠ PySem.W.tabObj #[] → H b = none := fun {b o} e h1 h2 => by
      cases q : H b with
      | none => rfl
      | some u =>
        rcases hA b u q with ⟨rfl, _, _⟩ | ⟨z, _⟩
        · rw [ha] at e; exact absurd (Option.some.inj e).symm h1
        · rw [tabA b z] at e; exact absurd (Option.some.inj e).symm h2
    have notDict : ∀ {o : Obj} {es : Array DictEntry} {ep : Nat}, o.data = .dict es ep → o ≠ ob ∧ o ≠ PySem.W.tabObj #[] := fun d => by
      refine ⟨fun e => ?_, fun e => ?_⟩
      · rw [e] at d
        have d' : Data.seq vs.toArray _ = Data.dict _ _ := d
        cases d'
      · rw [e] at d
        have d' : Data.fields #[] = Data.dict _ _ := d
        cases d'
    have nsK : ∀ {b : Addr} {m : Str → Option Value}, s₁.heap.Ns b m → (hidT s₁.heap H).Ns b m := fun {b m} ⟨o, es, ep, e, d, r⟩ => ⟨o, es, ep, hidT_get e (free e (notDict d).1 (notDict d).2), d, r⟩
    have hKb : K.In (hidT s₁.heap H) := fun b o e => hidT_get (KX b o e) (by
      cases q : H b with
      | none => rfl
      | some u =>
        rcases hA b u q with ⟨rfl, _, hk⟩ | ⟨⟨x, hx, c, et⟩, _⟩
        · rw [hk] at e; cases e
        · rw [(TT x hx c b et).2.1] at e; cases e)
    have hM : Mod K mg (hidT s₁.heap H) := ⟨hKb, nsK hns, ⟨mb, nsK hb, hbb⟩, let ⟨mc, h1, h2⟩ := hlim; ⟨mc, nsK h1, h2⟩⟩
    have e0 : Env0 P w K mg (hidT s₁.heap H) callerA [] s₁ H := ⟨rfl, hM, fun b o e => of_hidT e, Nat.le_of_eq (hidT_size _ _), trivial, fun b hb => absurd (show b ∈ ([] : List Addr) from hb) (by simp), hok, .of_eq hg⟩
    have hTB : TabsB K mg (hidT s₁.heap H) := fun x hx c Q et => by
      obtain ⟨hQ, _, hC⟩ := TT x hx c Q et
      refine ⟨?_, ?_, fun z => ?_⟩
      · obtain ⟨o, us, file, tf, flags, tg, inF, text, tt, e1, r1, r2, r3, rest⟩ := hC
        refine ⟨o, us, file, tf, flags, tg, inF, text, tt, hidT_get e1 (free e1 (fun z => ?_) fun z => ?_), r1, r2, r3, rest⟩
        · rw [z] at r2
          have r2' : Data.seq vs.toArray _ = Data.fields us := r2
          cases r2'
        · rw [z] at r1
          cases r1
      · obtain ⟨bm, o, b1, b2, b3, b4, b5, b6⟩ := hbm
        have nG : bm ≠ mainGlobals := fun q => by
          obtain ⟨o', es, ep, e', hd, _⟩ := hns
          rw [q, e'] at b3
          cases b3
          rw [hd] at b6
          cases b6
        have nQ : bm ≠ Q := fun q => by
          rw [q, hQ] at b3
          cases b3
          cases b6
        refine ⟨bm, o, b1, b2, nG, nQ, hidT_get b3 (free b3 (fun z => ?_) fun z => ?_), b4, b5, b6⟩
        · rw [z] at b6
          have b6' : Data.seq vs.toArray _ = Data.plain := b6
          cases b6'
        · rw [z] at b6
          cases b6
      · obtain ⟨o', es, ep, e', hd, _⟩ := hns
        rw [z, hQ] at e'
        cases e'
        cases hd
    obtain ⟨s', hφ⟩ := hφ
    have hsp : spZ K 1 φ [.ref a] H (fun v _ => v = .bl true) E0 := ⟨rfl, ⟨[], []⟩, _, [], _, s', .cons (.ls hS (rps_ints ns)) .nil,
      ⟨List.nodup_nil, rfl, fun n a o e => by simp at e, fun b hb => absurd hb (by simp), fun x hx c P e => ⟨#[], hT P ⟨x, hx, c, e⟩, trivial, fun pos cv z => by
        have z : codeAmong pos [] = some cv := z
        simp [codeAmong] at z⟩⟩, hφ, fun B' H' v _ _ _ r => by cases r; rfl⟩
    refine codeAny_mono ((F _ hKb (nsK hns) hTB).run callerA [] s₁ H ⟨[.ref a], []⟩ [.ref a] [.ref a] _ rfl hr e0 (hbind s₁ (.ref a)) (.cons rfl .nil) hsp) fun r s2 h => ?_
    cases r with
    | error e => exact False.elim h
    | ok fl =>
      cases fl with
      | next => exact False.elim h
      | brk => exact False.elim h
      | cont => exact False.elim h
      | ret u =>
        obtain ⟨v, H', os, bare, un, hok', r', q⟩ := h
        have q' : v = .bl true := q
        subst q'
        obtain rfl : u = Value.bool true := r'
        have key : ∀ b o, ¬ isTab K b → s₁.heap.get? b = some o → s2.heap.get? b = some o := fun b o nb e => by
          cases q : H b with
          | none => exact un.keep b o e q (fun z => absurd (show b ∈ ([] : List Addr) from z) (by simp)) (by simp)
          | some u =>
            rcases hA b u q with ⟨rfl, rfl, _⟩ | ⟨z, _⟩
            · obtain ⟨e2, _⟩ := hok' b _ (un.frzs b _ _ q)
              rw [ha] at e; cases e
              exact e2
            · exact absurd z nb
        have grown : ∀ b, isTab K b → ∃ more : Array Value, s2.heap.get? b = some (PySem.W.tabObj more) := fun b hb => by
          obtain ⟨more, z⟩ := un.tbls b #[] (hT b hb)
          exact ⟨_, hok' b _ z⟩
        refine ⟨rfl, ⟨fun b o e => ?_, fun b o e => ?_⟩, os, bare⟩
        · by_cases hb : isTab K b
          · obtain ⟨more, hm⟩ := grown b hb
            have eT := tabA b hb
            rw [eT] at e
            cases e
            obtain ⟨x, hx, c, et⟩ := hb
            obtain ⟨_, _, hC⟩ := TT x hx c b et
            exact .inr (.inl ⟨(hC.tab eT).isCodeTable, rfl, #[], more, rfl, by rw [Array.empty_append]; exact hm⟩)
          · exact .inl (key b o hb e)
        · by_cases hb : isTab K b
          · obtain ⟨more, hm⟩ := grown b hb
            exact ⟨_, hm⟩
          · exact ⟨o, key b o hb e⟩
  have aT : ¬ isTab K a := notTab ha (fun z => by
    have z' : Data.seq vs.toArray _ = Data.fields #[] := congrArg Obj.data z
    cases z')
  classical
  cases hk : K.lookup a with
  | some o =>
    have e := KX a o hk
    rw [ha] at e
    cases e
    refine core (fun b => if isTab K b then some (.tbl #[]) else none) (fun b u e => ?_) (fun b hb => if_pos hb) (.inr (.inr ⟨_, vs.toArray, _, hk, rfl, rfl, rfl, by rw [List.size_toArray, lenV]; exact hl, by simpa using rv⟩))
    by_cases hb : isTab K b
    · have e' := (if_pos hb).symm.trans e
      exact .inr ⟨hb, (Option.some.inj e').symm⟩
    · have e' := (if_neg hb).symm.trans e
      cases e'
  | none =>
    refine core (fun b => if b = a then some (.frz ob (.lst (ns.map V.int))) else if isTab K b then some (.tbl #[]) else none) (fun b u e => ?_) (fun b hb => (if_neg (show ¬ b = a from fun z => aT (by rw [← z]; exact hb))).trans (if_pos hb)) (.inr (.inl ⟨ob, if_pos rfl⟩))
    by_cases hb : b = a
    · have e' := (if_pos hb).symm.trans e
      exact .inl ⟨hb, (Option.some.inj e').symm, hk⟩
    · have e1 := (if_neg hb).symm.trans e
      by_cases hb2 : isTab K b
      · have e' := (if_pos hb2).symm.trans e1
        exact .inr ⟨hb2, (Option.some.inj e').symm⟩
      · have e' := (if_neg hb2).symm.trans e1
        cases e'
/-- the goal behind the head -/
theorem walkZ {l : PySem.W.OpenLaw} {n k : Nat} {q : Program} {loose : List Str} {XP : (Str → Option Value) → Heap → Prop} {YP : World → Heap → Prop} {d : DefRec} {K : Params → PySem.W.Frag} {x : Str} {φ : Phi}
    (hn : l.most = some n) (hn2 : n ≤ sizeLine) (hdf : d.params.defaults = []) (hr : Room k callerA) (hY : ∀ (w : World) (h : Heap), YP w h → (K w.params).In h)
    (F : ∀ (w : World) (mg : Str → Option Value) (fa : Addr) (h : Heap), (K w.params).In h → h.Ns mainGlobals mg → mg d.name = some (.ref fa) →
      ∃ fd : FuncData, (∀ (s : Shared) (u : Value), BindsTo s fd ⟨[u], []⟩ [(x, u)]) ∧ (∀ y ∈ tabN, ∀ c P, PySem.W.tabIn (K w.params) y = some (c, P) → (K w.params).lookup P = none) ∧ ∀ base : Heap, (K w.params).In base → base.Ns mainGlobals mg → TabsB (K w.params) mg base → FnZ ⟨l.prog, w, K w.params, mg, base⟩ k fa fd [x] (spZ (K w.params) 1 φ))
    (hφ : ∀ ns : List Int, ns.length ≤ n → ∃ s', φ [.ls (ns.map .int)] [] = .ok (.bl true) s')
    (hrec : ∀ y ∈ tabN, ((recsOf q).find? (fun e => e.name == y)).isSome = true := by intro y hy; cases hy) : PySem.W.WalkO q loose XP YP l.row.toRowW d [] (fun f vs => PySem.call f vs) := by
  refine Att.attach_call hn hdf fun w s₀ s₁ mg mb fa o pm cd doc a vs ns G Y ho hd hcd hmg hobj hints hlen hg => ?_
  have KX := hY w _ Y
  obtain ⟨fd, hb, hN, hF⟩ := F w mg fa _ KX G.T.g hmg
  refine endZ KX G.T.g G.T.b G.T.builtins G.T.nolimit hg hobj hints (Nat.le_trans hlen hn2) hr G.T.bmain (fun y hy c P e => ?_) hF hb (hφ ns hlen)
  obtain ⟨d', hd'⟩ := Option.isSome_iff_exists.mp (hrec y hy)
  obtain ⟨h1, h2⟩ := PySem.W.tab_of G.T KX hd' e
  exact ⟨h2, hN y hy c P e, h1⟩
/-- a def of the module, with all that is asked of it -/
theorem fz_mk {G : Gz} {bs : List Str} {k n : Nat} {x qual : Str} {st : Stmt} {f : Addr} {fd : FuncData} {N ps : List Str} {nm : List (Str × NameKind)} {body : Fn Ct} (F : Fun G.K x qual st f fd) (hm : G.mg x = some (.ref f)) (hb : Binds G.K fd ps []) (hn : ps.length = n) (S : FnScope N ps (defScope st)) (hnm : (defScope st).names = nm)
    (hbl : ∀ y ∈ bs, G.mg y = none) (hbody : ∀ X : Cx, Cz G bs k X N nm (fun _ => true) → ZB X (defBody st) body) : Fz G (k + 1) x n (fDef n N.length body) := by
  subst hn
  refine ⟨fun ds s d s' h => ?_, f, fd, ps, hm, F.kp, hb, rfl, z_fn F S hnm hbl hbody⟩
  exact beq_iff_eq.mp (Rs.iff_ok h).1
end Z

namespace Z
open PySem PySem.Spec PyProof.Rows L2

/-! ### a[lo:hi] -/
def tOfO (K : PySem.W.Frag) (f : Fn (Option Int)) : TO := fun σ H Q => ∃ B env s o s', RpE K B H env σ ∧ Sim K B H s ∧ f env s = .ok o s' ∧
  ∀ (B' : Lo) (H' : Hp), Ext B H B' H' → B'.hid = B.hid → Sim K B' H' s' → Q o H'
abbrev ZO (X : Cx) (o : Option Expr) (f : Fn (Option Int)) : Prop := PO X o (tOfO X.K f)
def fNoPart : Fn (Option Int) := fun _ s => .ok none s
def fPart (f : Fn Dv) : Fn (Option Int) := fun env s => (f env s).bind fun d s1 => match d with | .int i => .ok (some i) s1 | _ => .bad
theorem po_mono {X : Cx} {e : Option Expr} {t t' : TO} (h : PO X e t) (hh : ∀ σ H Q, t' σ H Q → t σ H Q) : PO X e t' := ⟨fun pins s σ H Q I q => h.run pins s σ H Q I (hh _ _ _ q)⟩
section
variable {G : Gz} {bs : List Str} {k : Nat} {X : Cx} {N : List Str} {nm : List (Str × NameKind)} {ow : Str → Bool} {a b e o i v : Expr} {es : List Expr} {fa fb fc fo fi fv : Fn Dv} {fs : Fn (List Dv)} {pos p : Pos} {x : Str}
theorem zo_none : ZO X none fNoPart := po_mono po_none fun σ H Q q => by
  obtain ⟨B, env, s, d, s', hE, hS, hf, hQ⟩ := q
  cases hf
  exact hQ B H (Ext.refl _ _) rfl hS
theorem zo_some (he : ZE X e fa) : ZO X (some e) (fPart fa) := po_mono (po_some he) fun σ H Q q => by
  obtain ⟨B, env, s, d, s', hE, hS, hf, hQ⟩ := q
  obtain ⟨y, s1, h1, hf⟩ := Rs.bind_ok hf
  cases y with
  | int j =>
    cases hf
    refine ⟨B, env, s, _, _, hE, hS, h1, fun B1 H1 v x1 e1 S1 r1 => ?_⟩
    cases r1
    exact ⟨j, rfl, hQ B1 H1 x1 e1 S1⟩
  | _ => cases hf
def cutD (xs : List Dv) (lo hi : Option Int) : List Dv := (xs.drop (HT.sIx xs.length 0 lo)).take (HT.sIx xs.length xs.length hi - HT.sIx xs.length 0 lo)
theorem cut_rp {K : PySem.W.Frag} {B : Lo} {H : Hp} {ds : List Dv} {xs : List V} (r : Rps K B H ds xs) (lo hi : Option Int) : Rps K B H (cutD ds lo hi) (cutV xs lo hi) := by
  unfold cutD cutV
  rw [r.length]
  exact (r.drop _).take _
theorem cutD_whole (ds : List Dv) (lo hi : Option Int) (h : HT.sIx ds.length 0 lo = 0 ∧ HT.sIx ds.length ds.length hi = ds.length) : cutD ds lo hi = ds := by
  unfold cutD
  rw [h.1, h.2]; simp
/-- a slice of a tuple, a text, a list -/
def gSl (x : Dv) (lo hi : Option Int) (s : Sto) : Rs Dv := match x with
  | .tup ds => .ok (.tup (cutD ds lo hi)) s
  | .str z => Rs.iff (decide (z.length ≤ 16777216)) (.ok (.str (cutS z lo hi)) s)
  | .ls ds => .ok (.ls (cutD ds lo hi)) s
  | .loc n => match s[n]? with | some (.lst ds) => .ok (.ls (cutD ds lo hi)) s | _ => .bad
  | _ => .bad
def rSlZ (K : PySem.W.Frag) : V → Option Int → Option Int → Hp → VK → Prop := fun x lo hi H Q => ∃ a xs, x = .ref a ∧ SqT K H a xs ∧
  (HT.sIx xs.length 0 lo = 0 ∧ HT.sIx xs.length xs.length hi = xs.length → Q (.ref a) H) ∧ (¬ (HT.sIx xs.length 0 lo = 0 ∧ HT.sIx xs.length xs.length hi = xs.length) → ∀ p o, H p = none → o.dict = none → Q (.ref p) (upd H p (.frz o (.tup (cutV xs lo hi)))))
theorem sl_tupZ : SlR X (rSlZ X.K) := by
  intro pins s σ H x v vl vu lo hi sl Q I rx hs pl pu h
  obtain ⟨a, xs, rfl, hx, q1, q2⟩ := h
  cases rx
  obtain ⟨its, r, ht, hz⟩ := I.tuple hx
  have hlen : its.toArray.size = xs.length := by rw [List.size_toArray]; exact r.length.symm
  refine ⟨"tuple", _, PyProof.Rows.slot_tuple_getitem.lookup, ht.typeIs, ?_⟩
  by_cases hw : HT.sIx xs.length 0 lo = 0 ∧ HT.sIx xs.length xs.length hi = xs.length
  · exact getItem_tuple_whole ht hs pl pu (by rw [hlen]; exact hw) ⟨.ref a, H, I, rfl, q1 hw⟩
  · refine HT.getItem_tuple_cut ht hs pl pu (by rw [hlen]; exact hw) ?_ (by rw [hlen]; exact hz)
    rw [hlen]
    exact tupK_new (t' := s.toks) I (Nat.le_trans (cutV_length xs lo hi) hz) ((r.drop (HT.sIx xs.length 0 lo)).take (HT.sIx xs.length xs.length hi - HT.sIx xs.length 0 lo)) (q2 hw)
def fSl (f : Fn Dv) (l h : Fn (Option Int)) : Fn Dv := fun env s => (f env s).bind fun x s1 => (l env s1).bind fun lo s2 => (h env s2).bind fun hi s3 => gSl x lo hi s3
theorem ls_back {K : PySem.W.Frag} {B : Lo} {H : Hp} {s : Sto} {d : List Dv} {Q : VK} (hQ : PostZ K B H s (.ls d) Q) {B' : Lo} {H' : Hp} {p : Addr} {xs : List V} (x : Ext B H ⟨B'.locs, p :: B'.hid⟩ H') (e : B'.hid = B.hid) (S : Sim K ⟨B'.locs, p :: B'.hid⟩ H' s)
    (hh : p ∉ B'.hid) (hl : H' p = some (.lst xs)) (r : Rps K ⟨B'.locs, p :: B'.hid⟩ H' d xs) : Q (.ref p) H' :=
  hQ ⟨B'.locs, B'.hid⟩ H' _ (x.drop fun b hb => by rw [e]; exact hb) e S.back (.ls (.inl ⟨hl, (S.hid p List.mem_cons_self).1, hh⟩) (r.mono Mo.back))
theorem z_slice {lo hi : Option Expr} {p2 : Pos} {fl fh : Fn (Option Int)} (he : ZE X e fa) (hl : ZO X lo fl) (hh : ZO X hi fh) : ZE X (.Subscript e (.Slice lo hi none p2) pos) (fSl fa fl fh) := by
  refine pe_mono (pe_slice (SlR.or sl_tupZ (SlR.or sl_str sl_list)) he hl hh) fun σ H Q q => ?_
  obtain ⟨B, env, s, d, s', hE, hS, hf, hQ⟩ := q
  obtain ⟨x, s1, h1, hf⟩ := Rs.bind_ok hf
  obtain ⟨l, s2, h2, hf⟩ := Rs.bind_ok hf
  obtain ⟨h, s3, h3, hf⟩ := Rs.bind_ok hf
  refine ⟨B, env, s, _, _, hE, hS, h1, fun B1 H1 v x1 e1 S1 r1 => ?_⟩
  refine ⟨B1, env, s1, _, _, hE.mono x1.mo, S1, h2, fun B2 H2 x2 e2 S2 => ?_⟩
  refine ⟨B2, env, s2, _, _, hE.mono (x1.trans x2).mo, S2, h3, fun B3 H3 x3 e3 S3 => ?_⟩
  have xx := x1.trans (x2.trans x3)
  have ee := e3.trans (e2.trans e1)
  have hQ3 : PostZ X.K B3 H3 s' d Q := fun B4 H4 u x4 e4 S4 r4 => hQ B4 H4 u (xx.trans x4) (e4.trans ee) S4 r4
  have r3 := r1.mono (x2.trans x3).mo
  have asList : ∀ {a : Addr} {xs : List V} {ds : List Dv}, v = .ref a → SqL X.K H3 a xs → Rps X.K B3 H3 ds xs → s' = s3 → d = .ls (cutD ds l h) → rSlL X.K v l h H3 Q := fun {a xs ds} ev hq rr es ed => by
    subst ev es ed
    refine ⟨a, xs, rfl, hq, fun p hp => ?_⟩
    exact new_lst S3 (cut_rp rr l h) hp fun B' H' p xs x e S hh _ hl r => ls_back hQ3 x e S hh hl r
  cases x with
  | tup ds =>
    cases hf
    cases r3 with
    | tup h4 h5 =>
      refine .inl ⟨_, _, rfl, h4.sq, fun hw => ?_, fun hw p o hp hd => new_tup S3 (cut_rp h5 l h) hQ3 hp hd⟩
      rw [← h5.length] at hw
      rw [cutD_whole _ _ _ hw] at hQ3
      exact hQ3.same S3 (.tup h4 h5)
  | str z =>
    obtain ⟨hz, hf⟩ := Rs.iff_ok hf
    cases hf
    cases r3
    exact .inr (.inl ⟨z, rfl, len_line (of_decide_eq_true hz), hQ3.same S3 (.str _)⟩)
  | ls ds =>
    cases hf
    cases r3 with
    | ls h4 h5 => exact .inr (.inr (asList rfl h4.sq h5 rfl rfl))
  | loc n =>
    cases r3 with
    | loc h4 =>
      obtain ⟨o, ho, ro⟩ := S3.at h4
      have hf' : (match s3[n]? with | some (.lst ds) => Rs.ok (Dv.ls (cutD ds l h)) s3 | _ => Rs.bad) = Rs.ok d s' := hf
      rw [ho] at hf'
      cases o with
      | lst ds =>
        obtain ⟨xs, h5, h6⟩ := ro
        injection hf' with e1 e2
        exact .inr (.inr (asList rfl (.of h5) h6 e2.symm e1.symm))
      | _ => cases hf'
  | _ => cases hf

/-! ### builtins called -/
def CallZ (K : PySem.W.Frag) (r : List V → Hp → VK → Prop) (g : List Dv → Sto → Rs Dv) : Prop :=
  ∀ (B : Lo) (H : Hp) (s : Sto) (xs : List Dv) (vs : List V) (d : Dv) (s' : Sto) (Q : VK), Sim K B H s → Rps K B H xs vs → g xs s = .ok d s' → PostZ K B H s' d Q → r vs H Q
def CallLZ (K : PySem.W.Frag) (r : List V → Hp → VK → Prop) (g : List Dv → Sto → Rs (List Dv)) : Prop :=
  ∀ (B : Lo) (H : Hp) (s : Sto) (xs : List Dv) (vs : List V) (d : List Dv) (s' : Sto) (Q : VK), Sim K B H s → Rps K B H xs vs → g xs s = .ok d s' →
    (∀ (B' : Lo) (H' : Hp) (p : Addr) (xs : List V), Ext B H ⟨B'.locs, p :: B'.hid⟩ H' → B'.hid = B.hid → Sim K ⟨B'.locs, p :: B'.hid⟩ H' s' → p ∉ B'.hid → H p = none → H' p = some (.lst xs) → Rps K ⟨B'.locs, p :: B'.hid⟩ H' d xs → Q (.ref p) H') → r vs H Q
variable {r : List V → Hp → VK → Prop}
theorem call_to {g : List Dv → Sto → Rs Dv} (hg : CallZ X.K r g) : ∀ σ H Q, tOf X.K (fCall g fs) σ H Q → tCB r (tOfA X.K fs) σ H Q := fun σ H Q q => by
  obtain ⟨B, env, s, d, s', hE, hS, hf, hQ⟩ := q
  obtain ⟨x, s1, h1, hf⟩ := Rs.bind_ok hf
  refine ⟨B, env, s, _, _, hE, hS, h1, fun B1 H1 v x1 e1 S1 r1 => ?_⟩
  exact hg B1 H1 s1 x v d s' Q S1 r1 hf fun B2 H2 u x2 e2 S2 r2 => hQ B2 H2 u (x1.trans x2) (e2.trans e1) S2 r2
def fCallL (g : List Dv → Sto → Rs (List Dv)) (f : Fn (List Dv)) : Fn (List Dv) := fun env s => (f env s).bind g
theorem callL_to {g : List Dv → Sto → Rs (List Dv)} (hg : CallLZ X.K r g) : ∀ σ H Q, tOfL X.K (fCallL g fs) σ H Q → tCB r (tOfA X.K fs) σ H Q := fun σ H Q q => by
  obtain ⟨B, env, s, d, s', hE, hS, hf, hQ⟩ := q
  obtain ⟨x, s1, h1, hf⟩ := Rs.bind_ok hf
  refine ⟨B, env, s, _, _, hE, hS, h1, fun B1 H1 v x1 e1 S1 r1 => ?_⟩
  exact hg B1 H1 s1 x v d s' Q S1 r1 hf fun B2 H2 p xs x2 e2 S2 hh hn hl r2 => hQ B2 H2 p xs (x1.trans x2) (e2.trans e1) S2 hh (new_none x1 x2 S2 hn) hl r2
theorem z_callB {id : String} {g : List Dv → Sto → Rs Dv} (c : Cz G bs k X N nm ow) (hc : CallR X (.builtin id) r) (hg : CallZ X.K r g) (ha : ZA X (e :: es) fs) (hv : bootBuiltins x = some (.builtin id)) (hb : bOk bs nm x = true) (hn : x ≠ "__name__") (hdb : (x == ("__debug__" : Str)) = false)
    (he : starEach (e :: es) X.env = (false, eval e X.env) :: starEach es X.env) (hpl : (backTo pos (starEach es X.env)).any (·.1) = false) : ZE X (.Call (.Name x p) (e :: es) [] pos) (fCall g fs) :=
  pe_mono (pe_callB hc (c.blt hb).1 (c.blt hb).2 hv ha hn hdb he hpl) (call_to hg)
theorem z_callTy {T : String} {g : List Dv → Sto → Rs Dv} (c : Cz G bs k X N nm ow) (hc : CallR X (.type T) r) (hg : CallZ X.K r g) (ha : ZA X (e :: es) fs) (hv : bootBuiltins x = some (.type T)) (hb : bOk bs nm x = true) (hn : x ≠ "__name__") (hdb : (x == ("__debug__" : Str)) = false)
    (he : starEach (e :: es) X.env = (false, eval e X.env) :: starEach es X.env) (hpl : (backTo pos (starEach es X.env)).any (·.1) = false) : ZE X (.Call (.Name x p) (e :: es) [] pos) (fCall g fs) :=
  pe_mono (pe_callTy hc (c.blt hb).1 (c.blt hb).2 hv ha hn hdb he hpl) (call_to hg)
theorem z_callBL {id : String} {g : List Dv → Sto → Rs (List Dv)} (c : Cz G bs k X N nm ow) (hc : CallR X (.builtin id) r) (hg : CallLZ X.K r g) (ha : ZA X (e :: es) fs) (hv : bootBuiltins x = some (.builtin id)) (hb : bOk bs nm x = true) (hn : x ≠ "__name__") (hdb : (x == ("__debug__" : Str)) = false)
    (he : starEach (e :: es) X.env = (false, eval e X.env) :: starEach es X.env) (hpl : (backTo pos (starEach es X.env)).any (·.1) = false) : ZL X (.Call (.Name x p) (e :: es) [] pos) (fCallL g fs) :=
  pe_mono (pe_callB hc (c.blt hb).1 (c.blt hb).2 hv ha hn hdb he hpl) (callL_to hg)
theorem z_callTyL {T : String} {g : List Dv → Sto → Rs (List Dv)} (c : Cz G bs k X N nm ow) (hc : CallR X (.type T) r) (hg : CallLZ X.K r g) (ha : ZA X (e :: es) fs) (hv : bootBuiltins x = some (.type T)) (hb : bOk bs nm x = true) (hn : x ≠ "__name__") (hdb : (x == ("__debug__" : Str)) = false)
    (he : starEach (e :: es) X.env = (false, eval e X.env) :: starEach es X.env) (hpl : (backTo pos (starEach es X.env)).any (·.1) = false) : ZL X (.Call (.Name x p) (e :: es) [] pos) (fCallL g fs) :=
  pe_mono (pe_callTy hc (c.blt hb).1 (c.blt hb).2 hv ha hn hdb he hpl) (callL_to hg)
/-- len -/
def gLen (xs : List Dv) (s : Sto) : Rs Dv := match xs with
  | [.str z] => Rs.iff (decide (z.length ≤ 16777216)) (.ok (.int z.length) s)
  | [x] => match seqOf s x with | some ds => .ok (.int ds.length) s | none => .bad
  | _ => .bad
theorem cz_len {K : PySem.W.Frag} : CallZ K (fun xs H Q => ∃ x n, xs = [x] ∧ LenV K x H n ∧ Q (.int n) H) gLen := by
  intro B H s xs vs d s' Q S r h q
  unfold gLen at h
  split at h
  · obtain ⟨hz, h⟩ := Rs.iff_ok h
    cases h
    cases r with
    | cons r1 rr =>
      cases r1; cases rr
      exact ⟨_, _, rfl, ⟨len_line (of_decide_eq_true hz), rfl⟩, q.same S (.int _)⟩
  · split at h
    · rename_i e1
      cases h
      cases r with
      | cons r1 rr =>
        cases rr
        obtain ⟨a, us, rfl, hq, r2⟩ := seq_of S r1 e1
        refine ⟨_, us.length, rfl, ?_, by rw [← r2.length]; exact q.same S (.int _)⟩
        rcases hq with hq | hq
        · exact .inl ⟨us, hq, rfl⟩
        · exact .inr ⟨us, hq, rfl⟩
    · cases h
  · cases h
theorem z_len (c : Cz G bs k X N nm ow) (ha : ZA X [e] fs) (hb : bOk bs nm "len" = true := by decide +kernel) (he : starEach [e] X.env = (false, eval e X.env) :: starEach [] X.env := by rfl) : ZE X (.Call (.Name "len" p) [e] [] pos) (fCall gLen fs) :=
  z_callB c call_len cz_len ha PySem.boot_len hb (by decide +kernel) (by decide +kernel) he rfl
/-- tuple(..) -/
def gTuple (xs : List Dv) (s : Sto) : Rs Dv := match xs with
  | [.tup ds] => .ok (.tup ds) s
  | [x] => match seqOf s x with | some ds => .ok (.tup ds) s | none => .bad
  | _ => .bad
theorem call_tupleZ : CallR X (.type "tuple") (fun xs H Q => ∃ p ys, xs = [.ref p] ∧ ((SqL X.K H p ys ∧ ∀ l o, H l = none → o.dict = none → Q (.ref l) (upd H l (.frz o (.tup ys)))) ∨ (SqT X.K H p ys ∧ Q (.ref p) H))) := by
  intro pins s σ H xs us Q I r h
  obtain ⟨p, ys, rfl, h⟩ := h
  rw [Vals.ref1 r]
  rcases h with ⟨hq, q⟩ | ⟨hq, q⟩
  · obtain ⟨its, r', pl, hz⟩ := I.list hq
    have hlen := r'.length
    refine call_tuple_list pl.isList (fun h' kp => ?_) (by simp only [List.size_toArray] <;> omega)
    have I1 : Inv X pins σ H { s with heap := h' } := I.kept (t' := s.toks) kp
    exact tupK_new (t' := s.toks) I1 hz r' q
  · obtain ⟨its, r', pl, hz⟩ := I.tuple hq
    exact call_tuple_same pl ⟨.ref p, H, I, rfl, q⟩
theorem cz_tuple {K : PySem.W.Frag} : CallZ K (fun xs H Q => ∃ p ys, xs = [.ref p] ∧ ((SqL K H p ys ∧ ∀ l o, H l = none → o.dict = none → Q (.ref l) (upd H l (.frz o (.tup ys)))) ∨ (SqT K H p ys ∧ Q (.ref p) H))) gTuple := by
  intro B H s xs vs d s' Q S r h q
  unfold gTuple at h
  split at h
  · cases h
    cases r with
    | cons r1 rr =>
      cases rr
      cases r1 with
      | tup h1 h2 => exact ⟨_, _, rfl, .inr ⟨h1.sq, q.same S (.tup h1 h2)⟩⟩
  · rename_i x hx
    split at h
    · rename_i ds e1
      cases h
      cases r with
      | @cons d0 v0 ds0 vs0 r1 rr =>
        cases rr
        have lst : ∃ a us, v0 = V.ref a ∧ SqL K H a us ∧ Rps K B H ds us := by
          cases r1 with
          | tup h1 h2 => exact absurd rfl (hx _)
          | ls h1 h2 => cases e1; exact ⟨_, _, rfl, h1.sq, h2⟩
          | loc h1 =>
            obtain ⟨o, ho, ro⟩ := S.at h1
            simp only [seqOf, ho] at e1
            cases o with
            | lst es =>
              cases e1
              obtain ⟨us, h3, h4⟩ := ro
              exact ⟨_, us, rfl, .of h3, h4⟩
            | _ => cases e1
          | _ => cases e1
        obtain ⟨a, us, ea, hq, r2⟩ := lst
        exact ⟨a, us, by rw [ea], .inl ⟨hq, fun l o hl hd => new_tup S r2 q hl hd⟩⟩
    · cases h
  · cases h
theorem z_tuple (c : Cz G bs k X N nm ow) (ha : ZA X [e] fs) (hb : bOk bs nm "tuple" = true := by decide +kernel) (he : starEach [e] X.env = (false, eval e X.env) :: starEach [] X.env := by rfl) : ZE X (.Call (.Name "tuple" p) [e] [] pos) (fCall gTuple fs) :=
  z_callTy c call_tupleZ cz_tuple ha (by decide +kernel) hb (by decide +kernel) (by decide +kernel) he rfl
/-- list(..) -/
def gList (xs : List Dv) (s : Sto) : Rs (List Dv) := match xs with
  | [x] => match seqOf s x with | some ds => .ok ds s | none => .bad
  | _ => .bad
theorem cz_list {K : PySem.W.Frag} : CallLZ K (fun xs H Q => ∃ p ys, xs = [.ref p] ∧ (SqL K H p ys ∨ SqT K H p ys) ∧ ∀ l, H l = none → Q (.ref l) (upd H l (.lst ys))) gList := by
  intro B H s xs vs d s' Q S r h q
  unfold gList at h
  split at h
  · split at h
    · rename_i e1
      cases h
      cases r with
      | cons r1 rr =>
        cases rr
        obtain ⟨a, us, rfl, hq, r2⟩ := seq_of S r1 e1
        exact ⟨a, us, rfl, hq, fun l hl => new_lst S r2 hl q⟩
    · cases h
  · cases h
theorem z_list (c : Cz G bs k X N nm ow) (ha : ZA X [e] fs) (hb : bOk bs nm "list" = true := by decide +kernel) (he : starEach [e] X.env = (false, eval e X.env) :: starEach [] X.env := by rfl) : ZL X (.Call (.Name "list" p) [e] [] pos) (fCallL gList fs) :=
  z_callTyL c call_list_of cz_list ha (by decide +kernel) hb (by decide +kernel) (by decide +kernel) he rfl
end
end Z

namespace Z
open PySem PySem.Spec PyProof.Rows L2

/-! ### methods of lists and tuples -/
def MtZ (K : PySem.W.Frag) (r : V → List V → Hp → VK → Prop) (g : Dv → List Dv → Sto → Rs Dv) : Prop :=
  ∀ (B : Lo) (H : Hp) (s : Sto) (x : Dv) (xs : List Dv) (v : V) (vs : List V) (d : Dv) (s' : Sto) (Q : VK), Sim K B H s → Rp K B H x v → Rps K B H xs vs → g x xs s = .ok d s' → PostZ K B H s' d Q → r v vs H Q
/-- x is of that kind -/
def isL (x : Dv) (s : Sto) : Bool := match x with
  | .ls _ => true
  | .loc n => match s[n]? with | some (.lst _) => true | _ => false
  | _ => false
def isT (x : Dv) (_ : Sto) : Bool := match x with | .tup _ => true | _ => false
def isD (x : Dv) (s : Sto) : Bool := match x with
  | .loc n => match s[n]? with | some (.dk _) => true | some (.dt _) => true | _ => false
  | _ => false
def isS (x : Dv) (_ : Sto) : Bool := match x with | .str _ => true | _ => false
def fMt (ty : Dv → Sto → Bool) (g : Dv → List Dv → Sto → Rs Dv) (fo : Fn Dv) (fs : Fn (List Dv)) : Fn Dv := fun env s => (fo env s).bind fun x s1 => Rs.iff (ty x s1) ((fs env s1).bind fun xs s2 => g x xs s2)
def TyZ (K : PySem.W.Frag) (ty : Dv → Sto → Bool) (R : V → Hp → Prop) : Prop := ∀ (B : Lo) (H : Hp) (s : Sto) (x : Dv) (v : V), Sim K B H s → Rp K B H x v → ty x s = true → R v H
theorem ty_l {K : PySem.W.Frag} : TyZ K isL (tyV K "list") := by
  intro B H s x v S r h
  cases r with
  | ls h1 h2 => exact .inl ⟨rfl, _, h1.sq⟩
  | loc h1 =>
    obtain ⟨o, ho, ro⟩ := S.at h1
    simp only [isL, ho] at h
    cases o with
    | lst ds => obtain ⟨xs, h3, _⟩ := ro; exact .inl ⟨rfl, xs, .of h3⟩
    | _ => cases h
  | _ => cases h
/-- a tuple with a plain head -/
def tyT (K : PySem.W.Frag) (v : V) (H : Hp) : Prop := ∃ a xs, v = .ref a ∧ Tk K H a xs
theorem ty_t {K : PySem.W.Frag} : TyZ K isT (tyT K) := by
  intro B H s x v S r h
  cases r with
  | tup h1 h2 => exact ⟨_, _, rfl, h1⟩
  | _ => cases h
def tMt (K : PySem.W.Frag) (R : V → Hp → Prop) (r : V → List V → Hp → VK → Prop) (to : TE) (t : TA) : TE := fun σ H Q => to σ H fun x H1 => R x H1 ∧ t σ H1 fun xs H2 => r x xs H2 Q
section
variable {G : Gz} {bs : List Str} {k : Nat} {X : Cx} {N : List Str} {nm : List (Str × NameKind)} {ow : Str → Bool} {a b e o i v : Expr} {es : List Expr} {fa fb fc fo fi fv : Fn Dv} {fs : Fn (List Dv)} {pos p apos cpos : Pos} {x name : Str} {id : String} {r : V → List V → Hp → VK → Prop} {g : Dv → List Dv → Sto → Rs Dv}
theorem mt_to {ty : Dv → Sto → Bool} {R : V → Hp → Prop} (ht : TyZ X.K ty R) (hg : MtZ X.K r g) : ∀ σ H Q, tOf X.K (fMt ty g fo fs) σ H Q → tMt X.K R r (tOf X.K fo) (tOfA X.K fs) σ H Q := fun σ H Q q => by
  obtain ⟨B, env, s, d, s', hE, hS, hf, hQ⟩ := q
  obtain ⟨x, s1, h1, hf⟩ := Rs.bind_ok hf
  obtain ⟨hc, hf⟩ := Rs.iff_ok hf
  obtain ⟨xs, s2, h2, hf⟩ := Rs.bind_ok hf
  refine ⟨B, env, s, _, _, hE, hS, h1, fun B1 H1 v x1 e1 S1 r1 => ⟨ht B1 H1 s1 x v S1 r1 hc, ?_⟩⟩
  refine ⟨B1, env, s1, _, _, hE.mono x1.mo, S1, h2, fun B2 H2 vs x2 e2 S2 r2 => ?_⟩
  exact hg B2 H2 s2 x xs v vs d s' Q S2 (r1.mono x2.mo) r2 hf fun B3 H3 u x3 e3 S3 r3 => hQ B3 H3 u (x1.trans (x2.trans x3)) (e3.trans (e2.trans e1)) S3 r3
/-- a method of a tuple, asked by places -/
theorem pe_mtT {to : TE} {t : TA} (slot : Slot "tuple" name id) (pa : PlainAttrs "tuple") (hty : typeOf (.builtin id) = pure (.type "method_descriptor")) (hm : MtR X id r) (ho : PE X o to) (ha : PA X (e :: es) t)
    (hbase : attributeBase o name X.env (eval o X.env) = eval o X.env)
    (hfew : ((backTo cpos (starEach (e :: es) X.env)).all (fun x => !x.1) && (backToKw cpos (keywordEach [] X.env)).all (fun x => x.1.isSome)
      && decide ((e :: es).length + ([] : List Keyword).length + (if ([] : List Keyword).isEmpty then 0 else 1) < 30)) = true)
    (hline : (apos.endLine == cpos.line) = true) (hs : starEach (e :: es) X.env = (false, eval e X.env) :: starEach es X.env) (hplain : (backTo cpos (starEach es X.env)).any (·.1) = false) :
    PE X (.Call (.Attribute o name apos) (e :: es) [] cpos) (tMt X.K (tyT X.K) r to t) := by
  refine ⟨fun pins s σ H Q I h => ?_⟩
  refine wpAny_Call_method_late hbase hfew hline rfl (thn (ho.run pins s σ H _ I h) fun v s1 ⟨x, H1, I1, r1, ⟨at1, xs1, ev, tk⟩, q1⟩ => ?_)
  subst ev
  cases r1
  have hob : ∃ ob, s1.heap.get? at1 = some ob ∧ ob.cls = .type "tuple" ∧ ob.dict = none := by
    rcases tk with ⟨ob, h1, h2⟩ | ⟨ob, its, n, h1, h2, h3, _⟩
    · obtain ⟨h4, h5⟩ := I1.hok _ _ h1
      obtain ⟨_, _, _, ob', e1, e2, _⟩ := h5
      rw [h4] at e1; cases e1
      exact ⟨ob, h4, e2, h2⟩
    · exact ⟨ob, I1.kIn _ _ h1, h2, h3⟩
  obtain ⟨ob, g1, g2, g3⟩ := hob
  refine ⟨"tuple", id, pa, slot, hty, ⟨ob, g1, g2⟩, fun a e => ?_, ?_⟩
  · cases e
    exact ⟨ob, g1, g3⟩
  have hA := ha.run cpos pins s1 σ H1 _ I1 q1
  rw [hs] at hA ⊢
  refine Calls.callWith_builtin (by show (false || (backTo cpos (starEach es X.env)).any (·.1)) = false; rw [hplain] <;> rfl) (Calls.evalArgs_plain ?_)
  exact thn hA fun us s2 ⟨vs, H2, I2, r2, q2⟩ => hm pins s2 σ H2 (.ref at1) vs (.ref at1) us Q I2 rfl r2 q2

/-! append, extend, pop -/
def gAppend (x : Dv) (xs : List Dv) (s : Sto) : Rs Dv := match x, xs with
  | .loc n, [d] => match s[n]? with
    | some (.lst ds) => Rs.iff (decide (ds.length < 16777216)) (.ok .non (s.set n (.lst (ds ++ [d]))))
    | _ => .bad
  | _, _ => .bad
theorem loc_lst {K : PySem.W.Frag} {B : Lo} {H : Hp} {s : Sto} (S : Sim K B H s) {n : Nat} {v : V} {ds : List Dv} (r : Rp K B H (.loc n) v) (e : s[n]? = some (.lst ds)) : ∃ a xs, v = .ref a ∧ B.locs[n]? = some a ∧ H a = some (.lst xs) ∧ Rps K B H ds xs := by
  cases r with
  | loc h1 =>
    obtain ⟨o, ho, ro⟩ := S.at h1
    rw [e] at ho; cases ho
    obtain ⟨xs, h3, h4⟩ := ro
    exact ⟨_, xs, rfl, h1, h3, h4⟩
/-- the list at n is changed -/
theorem put_lst {K : PySem.W.Frag} {B : Lo} {H : Hp} {s : Sto} {d : Dv} {v : V} {Q : VK} {n : Nat} {a : Addr} {ds : List Dv} {xs : List V} (S : Sim K B H s) (h : B.locs[n]? = some a) (r : Rps K B H ds xs) (q : PostZ K B H (s.set n (.lst ds)) d Q) (hd : Rp K B H d v) : Q v (upd H a (.lst xs)) := by
  have x := Ext.write (o := .lst xs) S h
  exact q B _ v x rfl (S.write h ⟨xs, upd_same, r.mono x.mo⟩) (hd.mono x.mo)
theorem mz_append {K : PySem.W.Frag} : MtZ K rAppend gAppend := by
  intro B H s x xs v vs d s' Q S r rs h q
  unfold gAppend at h
  split at h
  · split at h
    · rename_i ds e1
      obtain ⟨hz, h⟩ := Rs.iff_ok h
      cases h
      obtain ⟨a, us, rfl, h1, h2, h3⟩ := loc_lst S r e1
      cases rs with
      | cons r1 rr =>
        cases rr
        refine ⟨a, us, _, rfl, rfl, h2, ?_, put_lst S h1 (h3.append (.cons r1 .nil)) q .non⟩
        rw [← h3.length, sizeLine_eq]; exact of_decide_eq_true hz
    · cases h
  · cases h
theorem z_append (ho : ZE X o fo) (ha : ZA X [e] fs) (hbase : attributeBase o "append" X.env (eval o X.env) = eval o X.env := by rfl) (hline : (apos.endLine == cpos.line) = true := by rfl) (hs : starEach [e] X.env = (false, eval e X.env) :: starEach [] X.env := by rfl) :
    ZE X (.Call (.Attribute o "append" apos) [e] [] cpos) (fMt isL gAppend fo fs) :=
  pe_mono (pe_bm PySem.F.plainAttrs_list PySem.F.slot_list_append PySem.F.type_list_append mt_append ho ha hbase (by rw [hs]; rfl) hline hs rfl) (mt_to ty_l mz_append)
def gExtend (x : Dv) (xs : List Dv) (s : Sto) : Rs Dv := match x, xs with
  | .loc n, [.ls es] => match s[n]? with
    | some (.lst ds) => Rs.iff (decide (ds.length + es.length ≤ 16777216)) (.ok .non (s.set n (.lst (ds ++ es))))
    | _ => .bad
  | _, _ => .bad
/-- extend by a list just made -/
def rExtendZ (K : PySem.W.Frag) : V → List V → Hp → VK → Prop := fun x vs H Q => ∃ l b xs zs, x = .ref l ∧ vs = [.ref b] ∧ H l = some (.lst xs) ∧ H b = some (.lst zs) ∧ xs.length + zs.length ≤ sizeLine ∧ Q .non (upd H l (.lst (xs ++ zs)))
def fExtend (fo : Fn Dv) (fl : Fn (List Dv)) : Fn Dv := fun env s => (fo env s).bind fun x s1 => Rs.iff (isL x s1) ((fl env s1).bind fun es s2 => gExtend x [.ls es] s2)
/-- pop(i) -/
def gPopAt (x : Dv) (xs : List Dv) (s : Sto) : Rs Dv := match x, xs with
  | .loc n, [.int i] => match s[n]? with
    | some (.lst ds) => match ixN ds.length i with
      | some j => match ds[j]? with | some d => Rs.iff (inRng i) (.ok d (s.set n (.lst (ds.eraseIdx j)))) | none => .bad
      | none => .bad
    | _ => .bad
  | _, _ => .bad
theorem mz_popAt {K : PySem.W.Frag} : MtZ K rPopAt gPopAt := by
  intro B H s x xs v vs d s' Q S r rs h q
  unfold gPopAt at h
  split at h
  · split at h
    · rename_i ds e1
      split at h
      · rename_i j e2
        split at h
        · rename_i d' e3
          obtain ⟨hz, h⟩ := Rs.iff_ok h
          cases h
          obtain ⟨a, us, rfl, h1, h2, h3⟩ := loc_lst S r e1
          obtain ⟨z1, z2⟩ := inRng_ok hz
          cases rs with
          | cons r1 rr =>
            cases r1; cases rr
            obtain ⟨u, h4, h5⟩ := h3.get e3
            rw [h3.length] at e2
            exact ⟨a, us, _, j, u, rfl, rfl, h2, by omega, by omega, (ixN_seq e2).1, h4, put_lst S h1 (h3.eraseIdx j) q h5⟩
        · cases h
      · cases h
    · cases h
  · cases h
theorem z_popAt (ho : ZE X o fo) (ha : ZA X [e] fs) (hbase : attributeBase o "pop" X.env (eval o X.env) = eval o X.env := by rfl) (hline : (apos.endLine == cpos.line) = true := by rfl) (hs : starEach [e] X.env = (false, eval e X.env) :: starEach [] X.env := by rfl) :
    ZE X (.Call (.Attribute o "pop" apos) [e] [] cpos) (fMt isL gPopAt fo fs) :=
  pe_mono (pe_bm PySem.F.plainAttrs_list PySem.F.slot_list_pop PySem.F.type_list_pop mt_popAt ho ha hbase (by rw [hs]; rfl) hline hs rfl) (mt_to ty_l mz_popAt)
/-- index -/
def idxV (v : V) (vs : List V) : Option Nat := vs.findIdx? fun u => eqV u v
theorem seqL_of {K : PySem.W.Frag} {B : Lo} {H : Hp} {s : Sto} (S : Sim K B H s) {d : Dv} {v : V} {ds : List Dv} (r : Rp K B H d v) (hl : isL d s = true) (h : seqOf s d = some ds) : ∃ a xs, v = .ref a ∧ SqL K H a xs ∧ Rps K B H ds xs := by
  cases r with
  | ls h1 h2 => cases h; exact ⟨_, _, rfl, h1.sq, h2⟩
  | loc h1 =>
    obtain ⟨o, ho, ro⟩ := S.at h1
    simp only [seqOf, ho] at h
    cases o with
    | lst es =>
      cases h
      obtain ⟨xs, e1, e2⟩ := ro
      exact ⟨_, xs, rfl, .of e1, e2⟩
    | _ => cases h
  | _ => cases hl
def gIndexL (x : Dv) (xs : List Dv) (s : Sto) : Rs Dv := match xs with
  | [y] => match fV y, (seqOf s x).bind (·.mapM fV) with
    | some v, some vs => match idxV v vs with | some j => Rs.iff (isL x s) (.ok (.int (j : Nat)) s) | none => .bad
    | _, _ => .bad
  | _ => .bad
def strsOf : List Dv → Option (List Str)
  | [] => some []
  | .str z :: r => (strsOf r).map (z :: ·)
  | _ => none
theorem strs_rp {K : PySem.W.Frag} {B : Lo} {H : Hp} : ∀ {ds : List Dv} {vs : List V} {zs : List Str}, Rps K B H ds vs → strsOf ds = some zs → vs = zs.map V.str
  | _, _, _, .nil, h => by cases h; rfl
  | _, _, _, .cons r rr, h => by
    cases r with
    | str x =>
      obtain ⟨t, h1, rfl⟩ := Option.map_eq_some_iff.mp h
      rw [strs_rp rr h1]; rfl
    | _ => cases h
def gIndexT (x : Dv) (xs : List Dv) (s : Sto) : Rs Dv := match x, xs with
  | .tup ds, [.str z] => match strsOf ds with
    | some zs => match zs.findIdx? (· == z) with | some j => .ok (.int (j : Nat)) s | none => .bad
    | none => .bad
  | _, _ => .bad
theorem mz_indexL {K : PySem.W.Frag} : MtZ K (rIndex K) gIndexL := by
  intro B H s x xs v vs d s' Q S r rs h q
  unfold gIndexL at h
  split at h
  · split at h
    · rename_i u us e1 e2
      split at h
      · rename_i j e3
        obtain ⟨hl, h⟩ := Rs.iff_ok h
        cases h
        obtain ⟨ds, e4, e5⟩ := Option.bind_eq_some_iff.mp e2
        cases rs with
        | cons r1 rr =>
          cases rr
          obtain ⟨rfl, f1⟩ := fV_of r1 e1
          obtain ⟨a, ws, rfl, hq, rr⟩ := seqL_of S r hl e4
          obtain ⟨rfl, f2⟩ := fVs_of rr e5
          obtain ⟨h1, h2, h3⟩ := List.findIdx?_eq_some_iff_getElem.mp e3
          exact ⟨a, ws, _, j, ws[j], rfl, rfl, hq, f1, f2, List.getElem?_eq_getElem h1, h2, fun m z hm hz => by
            obtain ⟨q1, q2⟩ := List.getElem?_eq_some_iff.mp hz
            have := h3 m hm
            rw [← q2]; simpa using this, q.same S (.int _)⟩
      · cases h
    · cases h
  · cases h
theorem mz_indexT {K : PySem.W.Frag} : MtZ K (fun x xs H Q => ∃ p, ∃ ys : List Str, ∃ z j, x = .ref p ∧ xs = [.str z] ∧ SqT K H p (ys.map V.str) ∧ ys[j]? = some z ∧ (∀ m, m < j → ys[m]? ≠ some z) ∧ Q (.int (j : Nat)) H) gIndexT := by
  intro B H s x xs v vs d s' Q S r rs h q
  unfold gIndexT at h
  split at h
  · split at h
    · rename_i zs e1
      split at h
      · rename_i j e2
        cases h
        cases r with
        | tup h1 h2 =>
          cases rs with
          | cons r1 rr =>
            cases r1; cases rr
            have := strs_rp h2 e1
            subst this
            obtain ⟨g1, g2, g3⟩ := List.findIdx?_eq_some_iff_getElem.mp e2
            have g2 := beq_iff_eq.mp g2
            exact ⟨_, zs, _, j, rfl, rfl, h1.sq, by rw [← g2]; exact List.getElem?_eq_getElem g1, fun m hm hz => by
              obtain ⟨q1, q2⟩ := List.getElem?_eq_some_iff.mp hz
              have := g3 m hm
              rw [q2] at this
              simp at this, q.same S (.int _)⟩
      · cases h
    · cases h
  · cases h
/-- index of a list or of a tuple of texts -/
def fIndex (fo : Fn Dv) (fs : Fn (List Dv)) : Fn Dv := fun env s => (fo env s).bind fun x s1 => if isT x s1 = true then (fs env s1).bind fun xs s2 => gIndexT x xs s2 else Rs.iff (isL x s1) ((fs env s1).bind fun xs s2 => gIndexL x xs s2)
theorem z_index (ho : ZE X o fo) (ha : ZA X [e] fs) (hbase : attributeBase o "index" X.env (eval o X.env) = eval o X.env := by rfl) (hline : (apos.endLine == cpos.line) = true := by rfl) (hs : starEach [e] X.env = (false, eval e X.env) :: starEach [] X.env := by rfl) :
    ZE X (.Call (.Attribute o "index" apos) [e] [] cpos) (fIndex fo fs) := by
  have h1 : ZE X (.Call (.Attribute o "index" apos) [e] [] cpos) (fMt isT gIndexT fo fs) := pe_mono (pe_mtT PySem.F.slot_tuple_index PySem.F.plainAttrs_tuple PySem.F.type_tuple_index mt_tup_index ho ha hbase (by rw [hs]; rfl) hline hs rfl) (mt_to ty_t mz_indexT)
  have h2 : ZE X (.Call (.Attribute o "index" apos) [e] [] cpos) (fMt isL gIndexL fo fs) := pe_mono (pe_bm PySem.F.plainAttrs_list PySem.F.slot_list_index PySem.F.type_list_index mt_index ho ha hbase (by rw [hs]; rfl) hline hs rfl) (mt_to ty_l mz_indexL)
  refine pe_mono (pe_alt h1 h2) fun σ H Q q => ?_
  obtain ⟨B, env, s, d, s', hE, hS, hf, hQ⟩ := q
  obtain ⟨x, s1, g1, hf⟩ := Rs.bind_ok hf
  split at hf
  · rename_i hc
    exact .inl ⟨B, env, s, d, s', hE, hS, by unfold fMt; rw [g1]; show Rs.iff (isT x s1) _ = _; rw [hc]; exact hf, hQ⟩
  · exact .inr ⟨B, env, s, d, s', hE, hS, by unfold fMt; rw [g1]; exact hf, hQ⟩
end
end Z

namespace Z
open PySem PySem.Spec PyProof.Rows L2

/-! ### o[i] = v -/
def putD {κ : Type} [DecidableEq κ] (kvs : List (κ × Dv)) (k : κ) (v : Dv) : List (κ × Dv) :=
  if (kvs.any fun kv => decide (kv.1 = k)) = true then kvs.map (fun kv => if kv.1 = k then (kv.1, v) else kv) else kvs ++ [(k, v)]
def keyD : Dv → Option Key
  | .int i => some (.inl i)
  | .str z => some (.inr z)
  | _ => none
def gPut (x y d : Dv) (s : Sto) : Rs Unit := match x with
  | .loc n => match s[n]? with
    | some (.lst ds) => match y with
      | .int i => match ixN ds.length i with | some j => .ok () (s.set n (.lst (ds.set j d))) | none => .bad
      | _ => .bad
    | some (.dk kvs) => match keyD y with | some k => Rs.iff (decide (kvs.length < 16777216)) (.ok () (s.set n (.dk (putD kvs k d)))) | none => .bad
    | _ => .bad
  | _ => .bad
theorem gPut_cases {x y d : Dv} {s s' : Sto} {u : Unit} (h : gPut x y d s = .ok u s') : ∃ n, x = .loc n ∧ ((∃ ds i j, s[n]? = some (.lst ds) ∧ y = .int i ∧ ixN ds.length i = some j ∧ s' = s.set n (.lst (ds.set j d))) ∨
    ∃ kvs k, s[n]? = some (.dk kvs) ∧ keyD y = some k ∧ kvs.length < 16777216 ∧ s' = s.set n (.dk (putD kvs k d))) := by
  cases x with
  | loc n =>
    refine ⟨n, rfl, ?_⟩
    unfold gPut at h
    simp only at h
    split at h
    · rename_i ds e
      split at h
      · split at h
        · rename_i j e2
          cases h
          exact .inl ⟨ds, _, j, e, rfl, e2, rfl⟩
        · cases h
      · cases h
    · rename_i kvs e
      split at h
      · rename_i k e2
        obtain ⟨hz, h⟩ := Rs.iff_ok h
        cases h
        exact .inr ⟨kvs, k, e, e2, of_decide_eq_true hz, rfl⟩
      · cases h
    · cases h
  | _ => cases h
theorem key_rp {K : PySem.W.Frag} {B : Lo} {H : Hp} {y : Dv} {w : V} {k : Key} (r : Rp K B H y w) (h : keyD y = some k) : w = kV k := by
  cases r with
  | int i => cases h; rfl
  | str i => cases h; rfl
  | _ => cases h
theorem any_rp {K : PySem.W.Frag} {B : Lo} {H : Hp} {κ : Type} [DecidableEq κ] {k : κ} : ∀ {kvs : List (κ × Dv)} {ks : List (κ × V)}, Paired (fun (p : κ × Dv) (q : κ × V) => p.1 = q.1 ∧ Rp K B H p.2 q.2) kvs ks →
    (kvs.any fun kv => decide (kv.1 = k)) = ks.any fun kv => decide (kv.1 = k)
  | _, _, .nil => rfl
  | _, _, .cons ⟨e, _⟩ t => by simp only [List.any_cons, e, any_rp t]
theorem map_rp {K : PySem.W.Frag} {B : Lo} {H : Hp} {κ : Type} [DecidableEq κ] {k : κ} {d : Dv} {v : V} (r : Rp K B H d v) : ∀ {kvs : List (κ × Dv)} {ks : List (κ × V)}, Paired (fun (p : κ × Dv) (q : κ × V) => p.1 = q.1 ∧ Rp K B H p.2 q.2) kvs ks →
    Paired (fun (p : κ × Dv) (q : κ × V) => p.1 = q.1 ∧ Rp K B H p.2 q.2) (kvs.map fun kv => if kv.1 = k then (kv.1, d) else kv) (ks.map fun kv => if kv.1 = k then (kv.1, v) else kv)
  | _, _, .nil => .nil
  | (k1, d1) :: _, (k2, v2) :: _, .cons ⟨e, q⟩ t => by
    have e : k1 = k2 := e
    subst e
    refine .cons ?_ (map_rp r t)
    by_cases h : k1 = k
    · dsimp only; rw [if_pos h, if_pos h]; exact ⟨rfl, r⟩
    · dsimp only; rw [if_neg h, if_neg h]; exact ⟨rfl, q⟩
theorem paired_snoc {α β : Type} {F : α → β → Prop} {a : α} {b : β} (r : F a b) : ∀ {l : List α} {m : List β}, Paired F l m → Paired F (l ++ [a]) (m ++ [b])
  | _, _, .nil => .cons r .nil
  | _, _, .cons h t => .cons h (paired_snoc r t)
theorem put_rp {K : PySem.W.Frag} {B : Lo} {H : Hp} {κ : Type} [DecidableEq κ] {k : κ} {d : Dv} {v : V} (r : Rp K B H d v) {kvs : List (κ × Dv)} {ks : List (κ × V)} (p : Paired (fun (p : κ × Dv) (q : κ × V) => p.1 = q.1 ∧ Rp K B H p.2 q.2) kvs ks) :
    Paired (fun (p : κ × Dv) (q : κ × V) => p.1 = q.1 ∧ Rp K B H p.2 q.2) (putD kvs k d) (putK ks k v) := by
  unfold putD putK
  rw [any_rp p]
  split
  · exact map_rp r p
  · exact paired_snoc ⟨rfl, r⟩ p
theorem paired_len {α β : Type} {F : α → β → Prop} : ∀ {l : List α} {m : List β}, Paired F l m → l.length = m.length
  | _, _, .nil => rfl
  | _, _, .cons _ t => congrArg (· + 1) (paired_len t)
section
variable {G : Gz} {bs : List Str} {k : Nat} {X : Cx} {N : List Str} {nm : List (Str × NameKind)} {ow : Str → Bool} {a b e o i v : Expr} {es : List Expr} {fa fb fc fo fi fv : Fn Dv} {fs : Fn (List Dv)} {pos p apos cpos tpos : Pos} {x y z name : Str}
def fPut (fo fi fv : Fn Dv) : Fn Ct := fun env s => (fv env s).bind fun d s1 => (fo env s1).bind fun x s2 => (fi env s2).bind fun y s3 => (gPut x y d s3).bind fun _ s4 => .ok (.next env) s4
/-- a thing of the store at n is changed -/
theorem put_any {K : PySem.W.Frag} {B : Lo} {H : Hp} {s : Sto} {n : Nat} {a : Addr} {u : Ob} {h : HO} {R : Hp → Prop} (S : Sim K B H s) (hl : B.locs[n]? = some a) (r : Ext B H B (upd H a h) → RpO K B (upd H a h) a u)
    (q : ∀ (B' : Lo) (H' : Hp), Ext B H B' H' → B'.hid = B.hid → Sim K B' H' (s.set n u) → R H') : R (upd H a h) := by
  have x := Ext.write (o := h) S hl
  exact q B _ x rfl (S.write hl (r x))
theorem z_put (c : Cz G bs k X N nm ow) (ho : ZE X o fo) (hi : ZE X i fi) (hv : ZE X v fv) (hs : swapsWith v (some (.Subscript o i tpos)) pos.line X.env = pure false := by rfl) (hsole : swapsWithSole [.Subscript o i tpos] v pos.line X.env = pure false := by rfl)
    (hsw : swappedStores [.Subscript o i tpos] v X.env = pure none := by rfl) (ha : ∀ u, assign (.Subscript o i tpos) X.env u = (do
      let ov ← holding [u] (eval o X.env)
      let iv ← holding [u, ov] (eval i X.env)
      standAt tpos
      holding [u, ov, iv] (setItem ov iv u)
      release [u, ov, iv] []) := by intro _; rfl) (h1 : (assignEach [.Subscript o i tpos] X.env).map (·.2) = [assign (.Subscript o i tpos) X.env] := by rfl) :
    ZS X (.Assign [.Subscript o i tpos] v pos) (fPut fo fi fv) := by
  refine ps_mono (ps_alt (ps_asg hv (pg_sub ho hi set_list ha) hsole hsw h1) (ps_dput (hu_of c.rm) ho hi hv hs)) fun D σ H q => ?_
  obtain ⟨B, env, s, ct, s', hE, hS, hf, hQ⟩ := q
  obtain ⟨d, s1, h1, hf⟩ := Rs.bind_ok hf
  obtain ⟨xo, s2, h2, hf⟩ := Rs.bind_ok hf
  obtain ⟨yi, s3, h3, hf⟩ := Rs.bind_ok hf
  obtain ⟨_, s4, h4, hf⟩ := Rs.bind_ok hf
  cases hf
  obtain ⟨n, rfl, hg⟩ := gPut_cases h4
  rcases hg with ⟨ds, ii, j, g1, rfl, g2, rfl⟩ | ⟨kvs, ky, g1, g2, g3, rfl⟩
  · left
    refine ⟨B, env, s, _, _, hE, hS, h1, fun B1 H1 v1 x1 e1 S1 r1 => ?_⟩
    refine ⟨B1, env, s1, _, _, hE.mono x1.mo, S1, h2, fun B2 H2 v2 x2 e2 S2 r2 => ?_⟩
    refine ⟨B2, env, s2, _, _, hE.mono (x1.trans x2).mo, S2, h3, fun B3 H3 v3 x3 e3 S3 r3 => ?_⟩
    obtain ⟨a, us, rfl, h5, h6, h7⟩ := loc_lst S3 (r2.mono x3.mo) g1
    cases r3
    refine ⟨a, us, _, j, rfl, rfl, h6, by rw [← h7.length]; exact g2, ?_⟩
    have xx := x1.trans (x2.trans x3)
    refine put_any (u := .lst (ds.set j d)) (R := fun H' => D.nx σ H') S3 h5 (fun x => ⟨_, upd_same, (h7.set j (r1.mono (x2.trans x3).mo)).mono x.mo⟩) fun B4 H4 x4 e4 S4 => ?_
    exact hQ B4 H4 σ (xx.trans x4) (e4.trans (e3.trans (e2.trans e1))) S4 (hE.mono (xx.trans x4).mo)
  · right
    refine ⟨B, env, s, _, _, hE, hS, h1, fun B1 H1 v1 x1 e1 S1 r1 => ?_⟩
    refine ⟨B1, env, s1, _, _, hE.mono x1.mo, S1, h2, fun B2 H2 v2 x2 e2 S2 r2 => ?_⟩
    refine ⟨B2, env, s2, _, _, hE.mono (x1.trans x2).mo, S2, h3, fun B3 H3 v3 x3 e3 S3 r3 => ?_⟩
    cases r2.mono x3.mo with
    | loc hl =>
      obtain ⟨o, ho, ro⟩ := S3.at hl
      rw [g1] at ho; cases ho
      obtain ⟨ks, h5, h6⟩ := ro
      rw [key_rp r3 g2]
      refine ⟨_, _, rfl, DPut.k h5 (by rw [← paired_len h6, sizeLine_eq]; exact g3), ?_⟩
      have xx := x1.trans (x2.trans x3)
      refine put_any (u := .dk (putD kvs ky d)) (R := fun H' => D.nx σ H') S3 hl (fun x => ⟨_, upd_same, Paired.mapP (put_rp (k := ky) (r1.mono (x2.trans x3).mo) h6) fun p q z => ⟨z.1, z.2.mono x.mo⟩⟩) fun B4 H4 x4 e4 S4 => ?_
      exact hQ B4 H4 σ (xx.trans x4) (e4.trans (e3.trans (e2.trans e1))) S4 (hE.mono (xx.trans x4).mo)

/-! ### o[i] += v -/
def gIxL (x y : Dv) (s : Sto) : Rs Dv := match x, y with
  | .loc n, .int i => match s[n]? with
    | some (.lst ds) => match atI ds i with | some d => .ok d s | none => .bad
    | _ => .bad
  | _, _ => .bad
def gPutL (x y d : Dv) (s : Sto) : Rs Unit := match x, y with
  | .loc n, .int i => match s[n]? with
    | some (.lst ds) => match ixN ds.length i with | some j => .ok () (s.set n (.lst (ds.set j d))) | none => .bad
    | _ => .bad
  | _, _ => .bad
def gIxD (x y : Dv) (s : Sto) : Rs Dv := match x, keyD y with
  | .loc n, some k => match s[n]? with
    | some (.dk kvs) => match lookK kvs k with | some d => .ok d s | none => .bad
    | _ => .bad
  | _, _ => .bad
def gPutK (x y d : Dv) (s : Sto) : Rs Unit := match x, keyD y with
  | .loc n, some k => match s[n]? with
    | some (.dk kvs) => Rs.iff (decide (kvs.length < 16777216)) (.ok () (s.set n (.dk (putD kvs k d))))
    | _ => .bad
  | _, _ => .bad
def augWay (gi : Dv → Dv → Sto → Rs Dv) (gp : Dv → Dv → Dv → Sto → Rs Unit) (g : Int → Int → Int) (fi fv : Fn Dv) (x : Dv) : Fn Ct := fun env s1 => (fi env s1).bind fun y s2 => (gi x y s2).bind fun old s3 => (fv env s3).bind fun d s4 => (gI (fun i j => .int (g i j)) old d s4).bind fun new s5 =>
  (gp x y new s5).bind fun _ s6 => .ok (.next env) s6
/-- xs[i] += n, of a list or a dict of the store -/
def fAug (g : Int → Int → Int) (fo fi fv : Fn Dv) : Fn Ct := fun env s => (fo env s).bind fun x s1 => if isL x s1 = true then augWay gIxL gPutL g fi fv x env s1 else augWay gIxD gPutK g fi fv x env s1
end
end Z

namespace Z
open PySem PySem.Spec PyProof.Rows L2

/-! ### how stores go, by the scope's names alone -/
def dE (nm : List (Str × NameKind)) : Env := { scope := scD nm, locals := 0, globals := 0, cells := [], qual := Str.empty, func := none, code := .none, frame := none, builtins := 0 }
section
variable {G : Gz} {bs : List Str} {k : Nat} {X : Cx} {N : List Str} {nm : List (Str × NameKind)} {ow : Str → Bool} {a b e o i v : Expr} {es : List Expr} {fa fb fc fo fi fv : Fn Dv} {fs : Fn (List Dv)} {pos p apos cpos tpos : Pos} {x y z name : Str}
theorem Cz.kO (c : Cz G bs k X N nm ow) : ∀ id, X.env.kindOf id = (dE nm).kindOf id := fun id => by show X.env.scope.names.lookup _ = nm.lookup _; rw [c.nm]
theorem Cz.bK (c : Cz G bs k X N nm ow) : X.env.blockKind = (dE nm).blockKind := by unfold Env.blockKind; rw [c.kd]; rfl
theorem Cz.sw (c : Cz G bs k X N nm ow) {targets : List Expr} {value : Expr} : swappedStores targets value X.env = swappedStores targets value (dE nm) := by
  unfold swappedStores
  simp only [c.kO, c.bK]
theorem Cz.sW (c : Cz G bs k X N nm ow) {t : Option Expr} {value : Expr} {l : Nat} : swapsWith value t l X.env = swapsWith value t l (dE nm) := by
  have h : (X.env.scope.kind == ScopeKind.class) = ((dE nm).scope.kind == ScopeKind.class) := by rw [c.kd]; rfl
  unfold swapsWith
  simp only [c.kO, c.bK, h]
/-- a, b = x, y, stored from the right -/
def fPar2 (i j : Nat) (f : Fn (List Dv)) : Fn Ct := fun env s => (f env s).bind fun ds s1 => match ds with | [d, e] => .ok (.next ((env.set i (some d)).set j (some e))) s1 | _ => .bad
theorem lcl (c : Cz G bs k X N nm ow) (h : (nm.lookup x == some .local) = true) : X.env.scope.names.lookup x = some .local := by rw [c.nm]; exact beq_iff_eq.mp h
theorem z_par2 {i j : Nat} {px py pt pt2 : Pos} {kt k2 : Nat} (c : Cz G bs k X N nm ow) (ha : ZA X [a, b] fs) (hi : decide (N[i]? = some x) = true) (hj : decide (N[j]? = some y) = true) (hij : i ≠ j) (hx : (nm.lookup x == some .local) = true) (hy : (nm.lookup y == some .local) = true)
    (hw : swappedStores [.Tuple [.Name x px, .Name y py] kt pt] (.Tuple [a, b] k2 pt2) (dE nm) = pure (some [x, y])) : ZS X (.Assign [.Tuple [.Name x px, .Name y py] kt pt] (.Tuple [a, b] k2 pt2) pos) (fPar2 i j fs) := by
  have nd : X.N.Nodup := by rw [c.hN]; exact c.nd
  refine ps_mono (ps_par c.calm nd (by rw [c.hN]; exact of_decide_eq_true hi) (by rw [c.hN]; exact of_decide_eq_true hj) hij (lcl c hx) (lcl c hy) ha (c.sw.trans hw)) fun D σ H q => ?_
  obtain ⟨B, env, s, ct, s', hE, hS, hf, hQ⟩ := q
  obtain ⟨ds, s1, h1, hf⟩ := Rs.bind_ok hf
  split at hf
  · cases hf
    refine ⟨B, env, s, _, _, hE, hS, h1, fun B1 H1 vs x1 e1 S1 r1 => ?_⟩
    cases r1 with
    | cons r rr =>
      cases rr with
      | cons r' rr =>
        cases rr
        exact ⟨_, _, rfl, hQ B1 H1 _ x1 e1 S1 (((hE.mono x1.mo).set i r).set j r')⟩
  · cases hf
def fPar3 (i j l : Nat) (f : Fn (List Dv)) : Fn Ct := fun env s => (f env s).bind fun ds s1 => match ds with | [d, e, h] => .ok (.next (((env.set i (some d)).set j (some e)).set l (some h))) s1 | _ => .bad
/-! x = [..], x a local name on the comprehension's line -/
theorem val_to {K : PySem.W.Frag} {f : Fn (List Dv)} {te : TE} (h : ∀ σ H Q, tOfL K f σ H Q → te σ H Q) : ∀ σ H Q, tOf K (fVal f) σ H Q → te σ H Q := fun σ H Q q => by
  obtain ⟨B, env, s, d', s', hE, hS, hf, hQ⟩ := q
  obtain ⟨ds, s1, h1, hf⟩ := Rs.bind_ok hf
  cases hf
  refine h _ _ _ ⟨B, env, s, _, _, hE, hS, h1, fun B1 H1 p xs x1 e1 S1 hh hn hl r1 => ?_⟩
  exact hQ ⟨B1.locs, B1.hid⟩ H1 _ (x1.drop fun b hb => by rw [e1]; exact hb) e1 S1.back (.ls (.inl ⟨hl, (S1.hid p List.mem_cons_self).1, hh⟩) (r1.mono Mo.back))
variable {elt tg iter : Expr} {ifs : List Expr} {scope : Scope} {q : Bool} {fsr : Fn Src} {is : List Nat} {g : Dv → Fn En} {tt : Fn Bool} {te : Fn Dv}
theorem z_setLcW {spos py : Pos} {i : Nat} (c : Cz G bs k X N nm ow) (own : List (Str × Nat)) (hi : ZI X q tg iter fsr)
    (hin : ∀ X' : Cx, Cz G bs k X' N (relN nm scope.names) (ownN scope.names) → ZG X' q is tg g ∧ ZTs X' ifs tt ∧ ZE X' elt te) (wrap : Fn (List Dv) → Fn Dv) (hwr : ∀ {te' : TE}, (∀ σ H Q, tOfL X.K (fLc fsr (own.map (·.2)) g tt te) σ H Q → te' σ H Q) → ∀ σ H Q, tOf X.K (wrap (fLc fsr (own.map (·.2)) g tt te)) σ H Q → te' σ H Q)
    (hy : decide (N[i]? = some y) = true) (hyl : (nm.lookup y == some .local) = true) (hsw : swapsWith (.ListComp elt [⟨tg, iter, ifs, 0⟩] scope pos) (some (.Name y py)) spos.line (dE nm) = pure true)
    (ok : blkZ N nm scope own = true) (hk : scope.kind = .function) (his : is.all (fun i => (own.map (·.2)).contains i) = true) (hs : ∀ x, foldedSetIterable iter X.env x = pure x) :
    ZS X (.Assign [.Name y py] (.ListComp elt [⟨tg, iter, ifs, 0⟩] scope pos) spos) (fSet i (wrap (fLc fsr (own.map (·.2)) g tt te))) := by
  have nd : X.N.Nodup := by rw [c.hN]; exact c.nd
  have hcs := fun s H C cl fp => hin _ (c.blk hk s H C cl fp)
  refine ps_mono (ps_setLc (own := own) c.calm nd (by rw [c.hN]; exact of_decide_eq_true hy) (lcl c hyl) (c.sW.trans hsw) hi (c.blkOk ok) (fun s H C cl fp => (hcs s H C cl fp).1) (fun s H C cl fp => (hcs s H C cl fp).2.1) (fun s H C cl fp => (hcs s H C cl fp).2.2) hs) (set_to (hwr (lc_to fun i hi => ?_)))
  exact List.contains_iff_mem.mp (List.all_eq_true.mp his i hi)
theorem z_setLc {spos py : Pos} {i : Nat} (c : Cz G bs k X N nm ow) (own : List (Str × Nat)) (hi : ZI X q tg iter fsr)
    (hin : ∀ X' : Cx, Cz G bs k X' N (relN nm scope.names) (ownN scope.names) → ZG X' q is tg g ∧ ZTs X' ifs tt ∧ ZE X' elt te)
    (hy : decide (N[i]? = some y) = true := by decide +kernel) (hyl : (nm.lookup y == some .local) = true := by decide +kernel) (hsw : swapsWith (.ListComp elt [⟨tg, iter, ifs, 0⟩] scope pos) (some (.Name y py)) spos.line (dE nm) = pure true := by rfl)
    (ok : blkZ N nm scope own = true := by decide +kernel) (hk : scope.kind = .function := by rfl) (his : is.all (fun i => (own.map (·.2)).contains i) = true := by decide +kernel) (hs : ∀ x, foldedSetIterable iter X.env x = pure x := by intro _; rfl) :
    ZS X (.Assign [.Name y py] (.ListComp elt [⟨tg, iter, ifs, 0⟩] scope pos) spos) (fSet i (fVal (fLc fsr (own.map (·.2)) g tt te))) := z_setLcW c own hi hin fVal (fun h => val_to h) hy hyl hsw ok hk his hs
end
end Z

namespace Z
open PySem PySem.Spec PyProof.Rows L2

/-! ### {k: v, ..} -/
def fPairs : List (Fn Dv × Fn Dv) → Fn (List (Dv × Dv))
  | [], _, s => .ok [] s
  | (fk, fv) :: r, env, s => (fk env s).bind fun k s1 => (fv env s1).bind fun v s2 => (fPairs r env s2).bind fun ps s3 => .ok ((k, v) :: ps) s3
def keysD : List (Dv × Dv) → Option (List (Key × Dv))
  | [] => some []
  | (k, v) :: r => match keyD k, keysD r with | some k', some r' => some ((k', v) :: r') | _, _ => none
def mergeD (kvs more : List (Key × Dv)) : List (Key × Dv) := more.foldl (fun acc kv => putD acc kv.1 kv.2) kvs
def fDict (fs : List (Fn Dv × Fn Dv)) : Fn Dv := fun env s => (fPairs fs env s).bind fun ps s1 => match keysD ps with
  | some kvs => Rs.iff (decide (kvs.length ≤ 15)) (.ok (.loc s1.length) (s1 ++ [.dk (mergeD [] kvs)]))
  | none => .bad
section
variable {G : Gz} {bs : List Str} {k : Nat} {X : Cx} {N : List Str} {nm : List (Str × NameKind)} {ow : Str → Bool} {a b e o i v : Expr} {es : List Expr} {fa fb fc fo fi fv : Fn Dv} {fs : Fn (List Dv)} {pos p apos cpos tpos : Pos} {x y z name : Str}
abbrev ZPs (X : Cx) (pos : Pos) (ks : List (Option Expr)) (vs : List Expr) (fs : List (Fn Dv × Fn Dv)) : Prop := PPs X pos ks vs (fs.map fun p => (tOf X.K p.1, tOf X.K p.2))
abbrev RpPs (K : PySem.W.Frag) (B : Lo) (H : Hp) : List (Dv × Dv) → List (V × V) → Prop := Paired fun p q => Rp K B H p.1 q.1 ∧ Rp K B H p.2 q.2
theorem merge_rp {K : PySem.W.Frag} {B : Lo} {H : Hp} : ∀ {more : List (Key × Dv)} {ms : List (Key × V)} {kvs : List (Key × Dv)} {ks : List (Key × V)}, Paired (fun (p : Key × Dv) (q : Key × V) => p.1 = q.1 ∧ Rp K B H p.2 q.2) more ms →
    Paired (fun (p : Key × Dv) (q : Key × V) => p.1 = q.1 ∧ Rp K B H p.2 q.2) kvs ks → Paired (fun (p : Key × Dv) (q : Key × V) => p.1 = q.1 ∧ Rp K B H p.2 q.2) (mergeD kvs more) (mergeK ks ms)
  | _, _, _, _, .nil, h => h
  | (k1, d1) :: m, (k2, v2) :: m', kvs, ks, .cons ⟨e, r⟩ t, h => by
    have e : k1 = k2 := e
    subst e
    exact merge_rp (kvs := putD kvs k1 d1) (ks := putK ks k1 v2) t (put_rp r h)
def fDict0 : Fn Dv := fun _ s => .ok (.loc s.length) (s ++ [.dk []])
theorem z_dict0 : ZE X (.Dict [] [] pos) fDict0 := by
  refine pe_mono pe_dnewK fun σ H Q q => ?_
  obtain ⟨B, env, s, d, s', hE, hS, hf, hQ⟩ := q
  cases hf
  intro p hp
  have a1 := Ext.aside (B := B) (o := .dK []) hp
  have S2 := hS.aside (o := .dK []) hp
  refine hQ ⟨B.locs ++ [p], B.hid⟩ _ _ (a1.adopt hp fun _ h => h) rfl (S2.adopt (o := .dk []) (hS.freeH hp) ⟨_, upd_same, .nil⟩) (.loc ?_)
  rw [← hS.len]
  show (B.locs ++ [p])[B.locs.length]? = some p
  rw [List.getElem?_append_right (Nat.le_refl _)]
  simp

/-! ### sums, all, any, the greater -/
def intsOf : List Dv → Option (List Int)
  | [] => some []
  | .int z :: r => (intsOf r).map (z :: ·)
  | _ => none
def blsOf : List Dv → Option (List Bool)
  | [] => some []
  | .bl z :: r => (blsOf r).map (z :: ·)
  | _ => none
theorem ints_rp {K : PySem.W.Frag} {B : Lo} {H : Hp} : ∀ {ds : List Dv} {vs : List V} {zs : List Int}, Rps K B H ds vs → intsOf ds = some zs → vs = zs.map V.int
  | _, _, _, .nil, h => by cases h; rfl
  | _, _, _, .cons r rr, h => by
    cases r with
    | int x =>
      obtain ⟨t, h1, rfl⟩ := Option.map_eq_some_iff.mp h
      rw [ints_rp rr h1]; rfl
    | _ => cases h
theorem bls_rp {K : PySem.W.Frag} {B : Lo} {H : Hp} : ∀ {ds : List Dv} {vs : List V} {zs : List Bool}, Rps K B H ds vs → blsOf ds = some zs → vs = zs.map V.bl
  | _, _, _, .nil, h => by cases h; rfl
  | _, _, _, .cons r rr, h => by
    cases r with
    | bl x =>
      obtain ⟨t, h1, rfl⟩ := Option.map_eq_some_iff.mp h
      rw [bls_rp rr h1]; rfl
    | _ => cases h
/-- of a list alone -/
def gOnL {α : Type} (f : List Dv → Option α) (g : α → Dv) (xs : List Dv) (s : Sto) : Rs Dv := match xs with
  | [x] => match (seqOf s x).bind f with | some a => Rs.iff (isL x s) (.ok (g a) s) | none => .bad
  | _ => .bad
theorem gOnL_ok {α : Type} {f : List Dv → Option α} {g : α → Dv} {xs : List Dv} {s s' : Sto} {d : Dv} (h : gOnL f g xs s = .ok d s') : ∃ x ds a, xs = [x] ∧ isL x s = true ∧ seqOf s x = some ds ∧ f ds = some a ∧ d = g a ∧ s' = s := by
  unfold gOnL at h
  split at h
  · split at h
    · rename_i e1
      obtain ⟨h1, h2⟩ := Rs.iff_ok h
      obtain ⟨ds, e2, e3⟩ := Option.bind_eq_some_iff.mp e1
      cases h2
      exact ⟨_, ds, _, rfl, h1, e2, e3, rfl, rfl⟩
    · cases h
  · cases h
def gSumL := gOnL intsOf fun ns => Dv.int ns.sum
def gAll := gOnL blsOf fun b => Dv.bl (b.all id)
def gAny := gOnL blsOf fun b => Dv.bl (b.any id)
theorem cz_all {K : PySem.W.Frag} : CallZ K (rAll K) gAll := by
  intro B H s xs vs d s' Q S r h q
  obtain ⟨x, ds, ns, rfl, h1, h2, h3, rfl, rfl⟩ := gOnL_ok h
  cases r with
  | cons r1 rr =>
    cases rr
    obtain ⟨a, us, rfl, hq, r2⟩ := seqL_of S r1 h1 h2
    have := bls_rp r2 h3
    subst this
    exact ⟨a, ns, rfl, hq, q.same S (.bl _)⟩
theorem cz_any {K : PySem.W.Frag} : CallZ K (rAny K) gAny := by
  intro B H s xs vs d s' Q S r h q
  obtain ⟨x, ds, ns, rfl, h1, h2, h3, rfl, rfl⟩ := gOnL_ok h
  cases r with
  | cons r1 rr =>
    cases rr
    obtain ⟨a, us, rfl, hq, r2⟩ := seqL_of S r1 h1 h2
    have := bls_rp r2 h3
    subst this
    exact ⟨a, ns, rfl, hq, q.same S (.bl _)⟩
theorem z_all (c : Cz G bs k X N nm ow) (ha : ZA X [e] fs) (hb : bOk bs nm "all" = true := by decide +kernel) (he : starEach [e] X.env = (false, eval e X.env) :: starEach [] X.env := by rfl) : ZE X (.Call (.Name "all" p) [e] [] pos) (fCall gAll fs) :=
  z_callB c (cr_all c.calm) cz_all ha (by decide +kernel) hb (by decide +kernel) (by decide +kernel) he rfl
theorem z_any (c : Cz G bs k X N nm ow) (ha : ZA X [e] fs) (hb : bOk bs nm "any" = true := by decide +kernel) (he : starEach [e] X.env = (false, eval e X.env) :: starEach [] X.env := by rfl) : ZE X (.Call (.Name "any" p) [e] [] pos) (fCall gAny fs) :=
  z_callB c (cr_any c.calm) cz_any ha (by decide +kernel) hb (by decide +kernel) (by decide +kernel) he rfl
def gTwo (g : Int → Int → Int) (xs : List Dv) (s : Sto) : Rs Dv := match xs with | [.int i, .int j] => .ok (.int (g i j)) s | _ => .bad
theorem cz_two {K : PySem.W.Frag} {g : Int → Int → Int} : CallZ K (fun xs H Q => ∃ i j, xs = [.int i, .int j] ∧ Q (.int (g i j)) H) (gTwo g) := by
  intro B H s xs vs d s' Q S r h q
  unfold gTwo at h
  split at h
  · cases h
    cases r with
    | cons r1 rr =>
      cases r1
      cases rr with
      | cons r2 rr =>
        cases r2; cases rr
        exact ⟨_, _, rfl, q.same S (.int _)⟩
  · cases h
theorem z_max2 (c : Cz G bs k X N nm ow) (ha : ZA X [a, b] fs) (hb : bOk bs nm "max" = true := by decide +kernel) (he : starEach [a, b] X.env = (false, eval a X.env) :: starEach [b] X.env := by rfl) (hpl : (backTo pos (starEach [b] X.env)).any (·.1) = false := by rfl) :
    ZE X (.Call (.Name "max" p) [a, b] [] pos) (fCall (gTwo fun i j => if j > i then j else i) fs) := z_callB c (call_max2 c.calm) cz_two ha (by decide +kernel) hb (by decide +kernel) (by decide +kernel) he hpl
theorem z_min2 (c : Cz G bs k X N nm ow) (ha : ZA X [a, b] fs) (hb : bOk bs nm "min" = true := by decide +kernel) (he : starEach [a, b] X.env = (false, eval a X.env) :: starEach [b] X.env := by rfl) (hpl : (backTo pos (starEach [b] X.env)).any (·.1) = false := by rfl) :
    ZE X (.Call (.Name "min" p) [a, b] [] pos) (fCall (gTwo fun i j => if j < i then j else i) fs) := z_callB c (call_min2 c.calm) cz_two ha (by decide +kernel) hb (by decide +kernel) (by decide +kernel) he hpl

/-! ### repr -/
def gRepr (xs : List Dv) (s : Sto) : Rs Dv := match xs with
  | [x] => match pyOf s x with
    | some p => Rs.iff (p.showable && decide (p.shown.length ≤ 16777216)) (.ok (.str p.shown) s)
    | none => .bad
  | _ => .bad
mutual
theorem py_noDict {s : Sto} : ∀ (k : Nat) (d : Dv) (p : PyData), py s k d = some p → p.hasDict = false ∧ p.depth ≤ k
  | 0, _, _, h => by cases h
  | k + 1, d, p, h => by
    have seq : ∀ {ds : List Dv} {ps : List PyData}, ds.mapM (py s k) = some ps → PyData.hasDictAll ps = false ∧ PyData.depthAll ps ≤ k := fun {ds ps} e => pys_noDict k ds ps e
    cases d with
    | non => cases h; exact ⟨rfl, Nat.zero_le _⟩
    | bl b => cases h; exact ⟨rfl, Nat.zero_le _⟩
    | int b => cases h; exact ⟨rfl, Nat.zero_le _⟩
    | str b => cases h; exact ⟨rfl, Nat.zero_le _⟩
    | xn => cases h
    | tup ds =>
      obtain ⟨ps, h3, rfl⟩ := Option.map_eq_some_iff.mp h
      obtain ⟨a1, a2⟩ := seq h3
      exact ⟨by simpa [PyData.hasDict] using a1, by simp only [PyData.depth]; omega⟩
    | ls ds =>
      obtain ⟨ps, h3, rfl⟩ := Option.map_eq_some_iff.mp h
      obtain ⟨a1, a2⟩ := seq h3
      exact ⟨by simpa [PyData.hasDict] using a1, by simp only [PyData.depth]; omega⟩
    | loc n =>
      have h' : (match s[n]? with | some (.lst ds) => (ds.mapM (py s k)).map .list | _ => none) = some p := h
      split at h'
      · obtain ⟨ps, h3, rfl⟩ := Option.map_eq_some_iff.mp h'
        obtain ⟨a1, a2⟩ := seq h3
        exact ⟨by simpa [PyData.hasDict] using a1, by simp only [PyData.depth]; omega⟩
      · cases h'
theorem pys_noDict {s : Sto} (k : Nat) : ∀ (ds : List Dv) (ps : List PyData), ds.mapM (py s k) = some ps → PyData.hasDictAll ps = false ∧ PyData.depthAll ps ≤ k
  | [], ps, h => by simp at h; subst h; exact ⟨rfl, Nat.zero_le _⟩
  | d :: ds, ps, h => by
    obtain ⟨y, r, h1, h2, rfl⟩ := mapM_cons_some h
    obtain ⟨a1, a2⟩ := py_noDict k d y h1
    obtain ⟨b1, b2⟩ := pys_noDict k ds r h2
    exact ⟨by simp [PyData.hasDictAll, a1, b1], by simp only [PyData.depthAll]; omega⟩
end
def rRepr (K : PySem.W.Frag) : List V → Hp → VK → Prop := fun xs H Q => ∃ x p, xs = [x] ∧ Dp K H x p ∧ p.showable = true ∧ p.hasDict = false ∧ p.depth ≤ 40 ∧ p.shown.length ≤ sizeLine ∧ Q (.str p.shown) H
theorem call_repr (c : Cz G bs k X N nm ow) : CallR X (.builtin "repr") (rRepr X.K) := by
  intro pins s σ H xs us Q I r h
  obtain ⟨x, p, rfl, hd, hs, hn, hdp, hz, q⟩ := h
  obtain ⟨u, rfl, rx⟩ := Vals.one r
  cases hd with
  | non => cases rx; exact PySem.P.repr_of_none ⟨.str _, H, I.tok _, ⟨_, rfl⟩, q⟩
  | bl b => cases rx; exact PySem.P.repr_of_bool ⟨.str _, H, I.tok _, ⟨_, rfl⟩, q⟩
  | int i =>
    obtain ⟨t, rfl⟩ := rx
    exact PySem.P.repr_of_int (by simpa [PyData.showable] using hs) ⟨.str _, H, I.tok _, ⟨_, rfl⟩, q⟩
  | str z =>
    obtain ⟨t, rfl⟩ := rx
    exact PySem.P.repr_of_str ⟨.str _, H, I.tok _, ⟨_, rfl⟩, q⟩ hz
  | lst h1 h2 =>
    cases rx
    obtain ⟨as, hr⟩ := Dp.reads I _ _ _ (.lst h1 h2) rfl
    exact repr_of_reads' hr hs (PyData.noDict_hsm hn) c.gd (by have := c.un; omega) (fun _ _ e => e) (fun h' u tk kk => ⟨.str _, H, I.kept (t' := tk) kk, ⟨_, rfl⟩, q⟩) hz
  | tup h1 h2 =>
    cases rx
    obtain ⟨as, hr⟩ := Dp.reads I _ _ _ (.tup h1 h2) rfl
    exact repr_of_reads' hr hs (PyData.noDict_hsm hn) c.gd (by have := c.un; omega) (fun _ _ e => e) (fun h' u tk kk => ⟨.str _, H, I.kept (t' := tk) kk, ⟨_, rfl⟩, q⟩) hz
theorem cz_repr {K : PySem.W.Frag} : CallZ K (rRepr K) gRepr := by
  intro B H s xs vs d s' Q S r h q
  unfold gRepr at h
  split at h
  · split at h
    · rename_i p e1
      obtain ⟨h1, h2⟩ := Rs.iff_ok h
      rw [Bool.and_eq_true] at h1
      cases h2
      cases r with
      | cons r1 rr =>
        cases rr
        obtain ⟨n1, n2⟩ := py_noDict _ _ _ e1
        exact ⟨_, p, rfl, dp_of S _ _ _ _ r1 e1, h1.1, n1, n2, len_line (of_decide_eq_true h1.2), q.same S (.str _)⟩
    · cases h
  · cases h
theorem z_repr (c : Cz G bs k X N nm ow) (ha : ZA X [e] fs) (hb : bOk bs nm "repr" = true := by decide +kernel) (he : starEach [e] X.env = (false, eval e X.env) :: starEach [] X.env := by rfl) : ZE X (.Call (.Name "repr" p) [e] [] pos) (fCall gRepr fs) :=
  z_callB c (call_repr c) cz_repr ha (by decide +kernel) hb (by decide +kernel) (by decide +kernel) he rfl
end
end Z

namespace Z
open PySem PySem.Spec PyProof.Rows L2

/-! ### sorted(xs), xs a list or a tuple -/
section
variable {prog : Program} {w : World} {A : Around} {E : Value → Shared → Prop} {s : Shared}
theorem sorted_seqZ {it : Addr} {T : String} {o : Obj} {items : Array Value} {n : Nat} {kw : List (Str × Value)} {Q : Value → Shared → Prop} (hT : T = "list" ∨ T = "tuple") (ho : s.heap.get? it = some o) (hc : o.cls = .type T) (hd : o.data = .seq items n) (hsz : items.size ≤ sizeLine)
    (ha1 : argsOk "sorted" ⟨[.ref it], kw⟩)
    (body : ∀ (h' : Heap) (E' : Value → Shared → Prop), (∀ b o', s.heap.get? b = some o' → h'.get? b = some o') →
      wpAny (model prog w) A.in1 (call (.builtin "list.sort") [.ref h'.objs.size] kw) (fun v s' => Q (.ref h'.objs.size) s') E' { s with heap := h'.push (seqObj "list" items.toList.toArray 0) }) :
    wpAny (model prog w) A (call (.builtin "sorted") [.ref it] kw) Q E s := by
  refine call_function_entry_kw kind_sorted plain_sorted entry_sorted ha1 ?_
  unfold Builtin.«sorted»
  refine wpAny_bind (m := checkCount "sorted" 1 1 _) (wpAny_pure ?_)
  refine wpAny_bind (PySem.wpAny_collect_seq it hT ho hc hd (fun h' k => ?_) hsz)
  refine wpAny_bind (PySem.wpAny_newList ?_ (by rw [Array.length_toList]; exact hsz))
  refine wpAny_bind (wpAny_holding ?_)
  refine wpAny_mono (body h' _ k) (fun v s' hq => ?_) fun _ _ e => e
  exact wpAny_pure ⟨_, rfl, hq⟩
end

theorem vals_each {us : List V} {its : List Value} {ps : List PyData} (r : Vals us its) : us.length = ps.length → PySem.W.EachIs (fun v (b : V × PyData) => RelV b.1 v) its (us.zip ps) := by
  induction r generalizing ps with
  | nil => intro _; cases ps <;> exact .nil
  | cons h t ih =>
    intro hl
    cases ps with
    | nil => simp at hl
    | cons p ps => exact .cons h (ih (by simpa using hl))
theorem each_vals : ∀ {bs : List (V × PyData)} {its : List Value}, PySem.W.EachIs (fun v (b : V × PyData) => RelV b.1 v) its bs → Vals (bs.map (·.1)) its
  | _, _, .nil => .nil
  | _, _, .cons h t => .cons h (each_vals t)
def rSortedZ (K : PySem.W.Frag) : List V → Hp → VK → Prop := fun xs H Q => ∃ a us ps, xs = [.ref a] ∧ (SqL K H a us ∨ SqT K H a us) ∧ DpAll K H us ps ∧ PySem.W.AllAlike ps ∧ PySem.W.Sortable ps ∧ (∀ p ∈ ps, p.depth ≤ 40) ∧
  ∀ p, H p = none → Q (.ref p) (upd H p (.lst (((us.zip ps).mergeSort (PySem.W.dataLe false (·.2))).map (·.1))))
theorem dpAll_len {K : PySem.W.Frag} {H : Hp} : ∀ {us : List V} {ps : List PyData}, DpAll K H us ps → us.length = ps.length
  | _, _, .nil => rfl
  | _, _, .cons _ t => congrArg (· + 1) (dpAll_len t)
section
variable {G : Gz} {bs : List Str} {k : Nat} {X : Cx} {N : List Str} {nm : List (Str × NameKind)} {ow : Str → Bool} {a b e : Expr} {es : List Expr} {fa fb : Fn Dv} {fs : Fn (List Dv)} {pos p : Pos}
theorem dpAll_reads {pins : List (Addr × Obj)} {σ : L2.St} {H : Hp} {s : Shared} (I : Inv X pins σ H s) {h' : Heap} (kp : ∀ b o, s.heap.get? b = some o → h'.get? b = some o) {a : Addr} (ha : s.heap.get? a = none) : ∀ {us : List V} {ps : List PyData} {its : List Value}, DpAll X.K H us ps → Vals us its →
    PySem.W.EachIs (fun v (b : V × PyData) => ∃ as, Reads h' v b.2 as ∧ a ∉ as) its (us.zip ps)
  | _, _, _, .nil, .nil => .nil
  | _, _, _, .cons d t, .cons r q => by
    obtain ⟨as, h⟩ := Dp.reads I _ _ _ d r
    refine .cons ⟨as, Reads.keeps kp h, fun hm => ?_⟩ (dpAll_reads I kp ha t q)
    obtain ⟨o, ho⟩ := PyProof.On.reads_mem_get h a hm
    rw [ha] at ho; cases ho
theorem zip_snd : ∀ {us : List V} {ps : List PyData}, us.length = ps.length → (us.zip ps).map (·.2) = ps
  | [], [], _ => rfl
  | _ :: us, _ :: ps, h => congrArg (_ :: ·) (zip_snd (us := us) (ps := ps) (by simpa using h))
theorem call_sortedZ (c : Cz G bs k X N nm ow) : CallR X (.builtin "sorted") (rSortedZ X.K) := by
  intro pins s σ H xs vs Q I r h
  obtain ⟨a, us, ps, rfl, hq, hd, hal, hk, hdp, q⟩ := h
  rw [Vals.ref1 r]
  have hlen := dpAll_len hd
  have key : ∃ (its : List Value) (T : String) (o : Obj) (n : Nat), Vals us its ∧ (T = "list" ∨ T = "tuple") ∧ s.heap.get? a = some o ∧ o.cls = .type T ∧ o.data = .seq its.toArray n ∧ us.length ≤ sizeLine := by
    rcases hq with hq | hq
    · obtain ⟨its, r, ⟨o, n, e1, e2, _, e3⟩, hz⟩ := I.list hq
      exact ⟨its, "list", o, n, r, .inl rfl, e1, e2, e3, hz⟩
    · obtain ⟨its, r, ⟨o, e1, e2, n, e3⟩, hz⟩ := I.tuple hq
      exact ⟨its, "tuple", o, n, r, .inr rfl, e1, e2, e3, hz⟩
  obtain ⟨its, T, o, n, rv, hT, ho, hc, hdt, hz⟩ := key
  have hzz : (us.zip ps).length ≤ sizeLine := by rw [List.length_zip, ← hlen, Nat.min_self]; exact hz
  refine sorted_seqZ hT ho hc hdt (by rw [List.size_toArray, ← rv.length]; exact hz) (args_sorted1 _) fun h' E' kp => ?_
  have I1 : Inv X pins σ H { s with heap := h' } := I.kept (t' := s.toks) kp
  have fresh : h'.get? h'.objs.size = none := Heap.get?_none_of_le (Nat.le_refl _)
  have k2 : ∀ b o, h'.get? b = some o → (h'.push (seqObj "list" its.toArray.toList.toArray 0)).get? b = some o := fun b o e => Heap.get?_push_of_some _ e
  have hnew : (h'.push (seqObj "list" its.toArray.toList.toArray 0)).get? h'.objs.size = some (seqObj "list" its.toArray.toList.toArray 0) := Heap.get?_push_size _ rfl
  have hmap : (us.zip ps).map (·.2) = ps := zip_snd hlen
  refine PySem.W.list_sort_data (bs := us.zip ps) (enc := (·.2)) (R := fun v (b : V × PyData) => RelV b.1 v) hnew (vals_each rv hlen) (dpAll_reads I1 k2 fresh hd rv) (by rw [hmap]; exact hal) (by rw [hmap]; exact hk) hzz (fun b hb => ?_) fun out ho2 eo => ?_
  · have h1 : b.2 ∈ ps := by rw [← hmap]; exact List.mem_map.mpr ⟨b, hb, rfl⟩
    have h2 := hdp _ h1
    have h3 := c.un
    show X.A.units + 1 + 1 + b.2.depth < cLine
    omega
  · obtain ⟨m, hm⟩ := sortedHeap_at (vs := its.toArray.toList) (out := out.toArray) hnew
    refine ⟨.ref h'.objs.size, _, I1.laid (t' := s.toks) (a := h'.objs.size) (o := .lst (((us.zip ps).mergeSort (PySem.W.dataLe false (·.2))).map (·.1))) (fun b o e => ?_) (Nat.le_refl _) ?_, rfl, q _ I1.fresh⟩
    · have hlt := Heap.lt_size e
      exact (sortedHeap_old (Nat.ne_of_lt hlt) (Heap.lt_size (k2 b o e))).trans (k2 b o e)
    · refine ⟨?_, out, m, each_vals eo, hm⟩
      rw [List.length_map, List.length_mergeSort]; exact hzz
/-- the sorted items -/
def sortD (ds : List Dv) (ps : List PyData) : List Dv := ((ds.zip ps).mergeSort (PySem.W.dataLe false (·.2))).map (·.1)
def alikeB (ps : List PyData) : Bool := ps.all fun d => ps.all fun d' => PySem.W.alike d d'
def sortB (ps : List PyData) : Bool := ps.all (fun d => match d with | .tuple (_ :: _) => true | _ => false) || ps.all (fun d => match d with | .none => false | .tuple _ => false | _ => true)
theorem alikeB_ok {ps : List PyData} (h : alikeB ps = true) : PySem.W.AllAlike ps := fun d hd d' hd' => List.all_eq_true.mp (List.all_eq_true.mp h d hd) d' hd'
theorem sortB_ok {ps : List PyData} (h : sortB ps = true) : PySem.W.Sortable ps := by
  rcases Bool.or_eq_true _ _ ▸ h with h | h
  · refine .inl fun d hd => ?_
    have := List.all_eq_true.mp h d hd
    split at this
    · exact ⟨_, _, rfl⟩
    · cases this
  · refine .inr fun d hd => ?_
    have := List.all_eq_true.mp h d hd
    split at this
    · cases this
    · cases this
    · rename_i h1 h2
      exact ⟨h1, h2⟩
def gSorted (xs : List Dv) (s : Sto) : Rs (List Dv) := match xs with
  | [x] => match seqOf s x with
    | some ds => match ds.mapM (pyOf s) with
      | some ps => Rs.iff (alikeB ps && sortB ps) (.ok (sortD ds ps) s)
      | none => .bad
    | none => .bad
  | _ => .bad
theorem dps_of {K : PySem.W.Frag} {B : Lo} {H : Hp} {s : Sto} (S : Sim K B H s) : ∀ {ds : List Dv} {vs : List V} {ps : List PyData}, Rps K B H ds vs → ds.mapM (pyOf s) = some ps → DpAll K H vs ps
  | _, _, _, .nil, h => by simp at h; subst h; exact .nil
  | _, _, _, .cons r rr, h => by
    obtain ⟨y, t, h1, h2, rfl⟩ := mapM_cons_some h
    exact .cons (dp_of S _ _ _ _ r h1) (dps_of S rr h2)
theorem sort_rp {K : PySem.W.Frag} {B : Lo} {H : Hp} {ds : List Dv} {vs : List V} {ps : List PyData} (r : Rps K B H ds vs) (hl : ds.length = ps.length) : Rps K B H (sortD ds ps) (((vs.zip ps).mergeSort (PySem.W.dataLe false (·.2))).map (·.1)) := by
  have tri : ∀ {ds : List Dv} {vs : List V} (ps : List PyData), Rps K B H ds vs → ds.length = ps.length → ∃ ts : List ((Dv × V) × PyData), (∀ t ∈ ts, Rp K B H t.1.1 t.1.2) ∧ ds.zip ps = ts.map (fun t => (t.1.1, t.2)) ∧ vs.zip ps = ts.map (fun t => (t.1.2, t.2)) := by
    intro ds vs ps r
    induction ps generalizing ds vs with
    | nil => intro _; exact ⟨[], by simp, by simp, by simp⟩
    | cons p ps ih =>
      intro hl
      cases r with
      | nil => simp at hl
      | @cons d v ds vs r rr =>
        obtain ⟨ts, h1, h2, h3⟩ := ih rr (by simpa using hl)
        refine ⟨((d, v), p) :: ts, ?_, by simp [h2], by simp [h3]⟩
        intro t ht
        rcases List.mem_cons.mp ht with z | z
        · subst z; exact r
        · exact h1 t z
  obtain ⟨ts, h1, h2, h3⟩ := tri ps r hl
  unfold sortD
  rw [h2, h3, ← List.map_mergeSort (r := fun x y => PySem.W.dataLe false (·.2) x y) (f := fun t : (Dv × V) × PyData => (t.1.1, t.2)) (fun _ _ _ _ => rfl), ← List.map_mergeSort (r := fun x y => PySem.W.dataLe false (·.2) x y) (f := fun t : (Dv × V) × PyData => (t.1.2, t.2)) (fun _ _ _ _ => rfl), List.map_map, List.map_map]
  have : ∀ {us : List ((Dv × V) × PyData)}, (∀ t ∈ us, Rp K B H t.1.1 t.1.2) → Rps K B H (us.map ((·.1) ∘ fun t : (Dv × V) × PyData => (t.1.1, t.2))) (us.map ((·.1) ∘ fun t : (Dv × V) × PyData => (t.1.2, t.2))) := by
    intro us
    induction us with
    | nil => intro _; exact .nil
    | cons t us ih => intro h; exact .cons (h t List.mem_cons_self) (ih fun x hx => h x (List.mem_cons_of_mem _ hx))
  exact this fun t ht => h1 t ((List.mergeSort_perm ts _).mem_iff.mp ht)
theorem mapM_len {α β : Type} {f : α → Option β} : ∀ {ds : List α} {ps : List β}, ds.mapM f = some ps → ds.length = ps.length
  | [], ps, h => by simp at h; subst h; rfl
  | d :: ds, ps, h => by
    obtain ⟨y, t, h1, h2, rfl⟩ := mapM_cons_some h
    exact congrArg (· + 1) (mapM_len h2)
theorem pys_depth {s : Sto} : ∀ {ds : List Dv} {ps : List PyData}, ds.mapM (pyOf s) = some ps → ∀ p ∈ ps, p.depth ≤ 40
  | [], ps, h, p, hp => by simp at h; subst h; cases hp
  | d :: ds, ps, h, p, hp => by
    obtain ⟨y, t, h1, h2, rfl⟩ := mapM_cons_some h
    rcases List.mem_cons.mp hp with z | z
    · subst z; exact (py_noDict 40 d _ h1).2
    · exact pys_depth h2 p z
theorem cz_sorted {K : PySem.W.Frag} : CallLZ K (rSortedZ K) gSorted := by
  intro B H s xs vs d s' Q S r h q
  unfold gSorted at h
  split at h
  · split at h
    · rename_i e1
      split at h
      · rename_i ps e2
        obtain ⟨h1, h2⟩ := Rs.iff_ok h
        rw [Bool.and_eq_true] at h1
        cases h2
        cases r with
        | cons r1 rr =>
          cases rr
          obtain ⟨a, us, rfl, hq, r2⟩ := seq_of S r1 e1
          refine ⟨a, us, ps, rfl, hq, dps_of S r2 e2, alikeB_ok h1.1, sortB_ok h1.2, fun p hp => ?_, fun l hl => new_lst S (sort_rp r2 (mapM_len e2)) hl q⟩
          exact pys_depth e2 p hp
      · cases h
    · cases h
  · cases h
theorem z_sorted (c : Cz G bs k X N nm ow) (ha : ZA X [e] fs) (hb : bOk bs nm "sorted" = true := by decide +kernel) (he : starEach [e] X.env = (false, eval e X.env) :: starEach [] X.env := by rfl) : ZL X (.Call (.Name "sorted" p) [e] [] pos) (fCallL gSorted fs) :=
  z_callBL c (call_sortedZ c) cz_sorted ha (by decide +kernel) hb (by decide +kernel) (by decide +kernel) he rfl

/-! ### xs[::-1] -/
def fRevL (f : Fn Dv) : Fn (List Dv) := fun env s => (f env s).bind fun x s1 => match seqOf s1 x with
  | some ds => Rs.iff (isL x s1) (.ok ds.reverse s1)
  | none => .bad
/-! ### list + list -/
def rCatL (K : PySem.W.Frag) : R2 := fun x y H Q => ∃ l b xs zs, x = .ref l ∧ y = .ref b ∧ SqL K H l xs ∧ SqL K H b zs ∧ xs.length + zs.length ≤ sizeLine ∧ ∀ p, H p = none → Q (.ref p) (upd H p (.lst (xs ++ zs)))
theorem op_catL : OpR X (binaryOp .Add) (rCatL X.K) := by
  intro pins s σ H x y v u Q I rx ry h
  obtain ⟨l, b, xs, zs, rfl, rfl, hH, hB, hz, q⟩ := h
  cases rx
  cases ry
  obtain ⟨its, r, p1, hl⟩ := I.list hH
  obtain ⟨its2, r2, p2, hl2⟩ := I.list hB
  obtain ⟨⟨cls, dd, data, sl⟩, ho, hc, n, hd⟩ := p1.isList
  obtain ⟨⟨cls2, dd2, data2, sl2⟩, ho2, hc2, n2, hd2⟩ := p2.isList
  simp only at hc hd hc2 hd2
  subst hc hd hc2 hd2
  have e : its.toArray ++ its2.toArray = (its ++ its2).toArray := by simp
  refine concat_meets ⟨_, ho, rfl⟩ ⟨_, ho2, rfl⟩ noFill_list_add seq_list_add PySem.F.slot_list_add PySem.F.entry_list_add (PySem.F.args_list_add_2 _ _) (list_addW l b its.toArray its2.toArray n n2 dd dd2 sl sl2 (by rw [List.size_toArray, List.size_toArray, ← r.length, ← r2.length]; exact hz)) ⟨ho, ho2, ?_⟩
  rw [e]
  exact ⟨.ref _, _, I.lnew (t' := s.toks) (r.append r2) (by rw [List.length_append]; omega), rfl, q _ I.fresh⟩
def fCatL (f g : Fn Dv) : Fn (List Dv) := fun env s => (f env s).bind fun x s1 => (g env s1).bind fun y s2 => match seqOf s2 x, seqOf s2 y with
  | some ds, some es => Rs.iff (isL x s2 && isL y s2 && decide (ds.length + es.length ≤ 16777216)) (.ok (ds ++ es) s2)
  | _, _ => .bad
theorem z_catL (ha : ZE X a fa) (hb : ZE X b fb) : ZL X (.BinOp a .Add b pos) (fCatL fa fb) := by
  refine pe_mono (pe_op op_catL ha hb) fun σ H Q q => ?_
  obtain ⟨B, env, s, d, s', hE, hS, hf, hQ⟩ := q
  obtain ⟨x, s1, h1, hf⟩ := Rs.bind_ok hf
  obtain ⟨y, s2, h2, hf⟩ := Rs.bind_ok hf
  split at hf
  · rename_i ds es e1 e2
    obtain ⟨hl, hf⟩ := Rs.iff_ok hf
    cases hf
    rw [Bool.and_eq_true, Bool.and_eq_true] at hl
    obtain ⟨⟨l1, l2⟩, l3⟩ := hl
    refine ⟨B, env, s, _, _, hE, hS, h1, fun B1 H1 v x1 e1' S1 r1 => ?_⟩
    refine ⟨B1, env, s1, _, _, hE.mono x1.mo, S1, h2, fun B2 H2 u x2 e2' S2 r2 => ?_⟩
    obtain ⟨a1, us, rfl, hq, q1⟩ := seqL_of S2 (r1.mono x2.mo) l1 e1
    obtain ⟨a2, ws, rfl, hq2, q2⟩ := seqL_of S2 r2 l2 e2
    refine ⟨a1, a2, us, ws, rfl, rfl, hq, hq2, by rw [← q1.length, ← q2.length]; exact len_line (of_decide_eq_true l3), fun p hp => ?_⟩
    exact new_lst S2 (q1.append q2) hp fun B3 H3 p xs x3 e3 S3 hh hn hl r3 => hQ B3 H3 p xs ((x1.trans x2).trans x3) (e3.trans (e2'.trans e1')) S3 hh (new_none (x1.trans x2) x3 S3 hn) hl r3
  · cases hf
end
end Z

namespace Z
open PySem PySem.Spec PyProof.Rows L2 PySem.W

/-! ### isinstance(x, T), T one of the common types -/
def isiB (t T : String) : Bool := t == T || (t == "bool" && T == "int")
/-- no error -/
def okX : Dv → Bool
  | .xn .. => false
  | _ => true
theorem Jt : okX .non = true := rfl
theorem Yz {b : Bool} : okX (.bl b) = true := rfl
theorem Ju {b : Int} : okX (.int b) = true := rfl
theorem Jv {b : Str} : okX (.str b) = true := rfl
theorem Jw {b : List Dv} : okX (.tup b) = true := rfl
theorem Y0 {b : List Dv} : okX (.ls b) = true := rfl
theorem Jx {n : Nat} : okX (.loc n) = true := rfl
def tyD (x : Dv) (s : Sto) : String := match x with
  | .non => "NoneType"
  | .bl _ => "bool"
  | .int _ => "int"
  | .str _ => "str"
  | .tup _ => "tuple"
  | .ls _ => "list"
  | .loc n => match s[n]? with | some (.lst _) => "list" | some (.dk _) => "dict" | some (.dt _) => "dict" | none => ""
  | .xn .. => ""
theorem kit_tab : ∀ t ∈ ["NoneType", "bool", "int", "str", "tuple", "list", "dict"], ∀ T ∈ ["bool", "int", "str", "tuple", "list", "dict"], kitB t T = some (isiB t T) := by decide +kernel
theorem ty_of {K : PySem.W.Frag} {B : Lo} {H : Hp} {s : Sto} (S : Sim K B H s) {d : Dv} {v : V} (r : Rp K B H d v) (hx : okX d = true) : TyX K H v (.type (tyD d s)) ∧ tyD d s ∈ ["NoneType", "bool", "int", "str", "tuple", "list", "dict"] := by
  cases r with
  | xn => cases hx
  | non => exact ⟨.base .non, by simp [tyD]⟩
  | bl b => exact ⟨.base (.bl b), by simp [tyD]⟩
  | int b => exact ⟨.base (.int b), by simp [tyD]⟩
  | str b => exact ⟨.base (.str b), by simp [tyD]⟩
  | tup h _ =>
    refine ⟨?_, by simp [tyD]⟩
    rcases h with ⟨o, h, _⟩ | ⟨o, its, n, h1, h2, _⟩
    · exact .fTuple h
    · exact .kTuple h1 h2
  | ls h _ =>
    refine ⟨?_, by simp [tyD]⟩
    rcases h with ⟨h, _⟩ | ⟨o, h⟩ | ⟨o, its, n, h1, h2, _⟩
    · exact .base (.lst h)
    · exact .base (.frz h)
    · exact .kList h1 h2
  | @loc n a h =>
    obtain ⟨o, ho, ro⟩ := S.at h
    unfold tyD
    simp only [ho]
    cases o with
    | lst ds => obtain ⟨xs, h1, _⟩ := ro; exact ⟨.base (.lst h1), by simp⟩
    | dk ds => obtain ⟨xs, h1, _⟩ := ro; exact ⟨.base (.dK h1), by simp⟩
    | dt ds => obtain ⟨xs, h1, _⟩ := ro; exact ⟨.base (.dT h1), by simp⟩
def fIsi (T : String) (f : Fn Dv) : Fn Dv := fun env s => (f env s).bind fun x s1 => Rs.iff (okX x) (.ok (.bl (isiB (tyD x s1) T)) s1)
section
variable {G : Gz} {bs : List Str} {k : Nat} {X : Cx} {N : List Str} {nm : List (Str × NameKind)} {ow : Str → Bool} {a b e tg : Expr} {fa fb fc : Fn Dv} {fs : Fn (List Dv)} {pos p tpos p2 : Pos} {x : Str} {q : Bool}
theorem z_isi (c : Cz G bs k X N nm ow) (T : String) (he : ZE X e fa) (hb : bOk bs nm "isinstance" = true := by decide +kernel) (hT : T ∈ ["bool", "int", "str", "tuple", "list", "dict"] := by decide) (hx : bOk bs nm x = true := by decide +kernel)
    (hv : bootBuiltins x = some (.type T) := by decide +kernel) (hn : x ≠ "__name__" := by decide +kernel) (hd : (x == ("__debug__" : Str)) = false := by decide +kernel)
    (h1 : starEach [e, .Name x p2] X.env = (false, eval e X.env) :: starEach [.Name x p2] X.env := by rfl) (h2 : starEach [.Name x p2] X.env = (false, eval (.Name x p2) X.env) :: starEach [] X.env := by rfl) (hpl : (backTo pos (starEach [.Name x p2] X.env)).any (·.1) = false := by rfl) :
    ZE X (.Call (.Name "isinstance" p) [e, .Name x p2] [] pos) (fIsi T fa) := by
  have ht : PE X (.Name x p2) (tC (.ty T)) := pe_bltn (c.blt hx).1 (c.blt hx).2 hv rfl hn hd
  refine pe_mono (pe_callB call_isi (c.blt hb).1 (c.blt hb).2 (by decide +kernel) (pa_cons he (pa_cons ht pa_nil h2) h1) (by decide +kernel) (by decide +kernel) h1 hpl) fun σ H Q h => ?_
  obtain ⟨B, env, s, d, s', hE, hS, hf, hQ⟩ := h
  obtain ⟨y, s1, g1, hf⟩ := Rs.bind_ok hf
  obtain ⟨hox, hf⟩ := Rs.iff_ok hf
  cases hf
  refine ⟨B, env, s, _, _, hE, hS, g1, fun B1 H1 v x1 e1 S1 r1 => ?_⟩
  obtain ⟨t1, t2⟩ := ty_of S1 r1 hox
  exact ⟨v, .ty T, _, .type T, _, rfl, .ty T, t1, kit_ty (kit_tab _ t2 _ hT), hQ B1 H1 _ x1 e1 S1 (.bl _)⟩

/-! ### for c in text -/
def charsD (z : Str) : List Dv := z.cps.toList.map fun c => .str ⟨#[c]⟩
def fSrcS (f : Fn Dv) : Fn Src := fun env s => (f env s).bind fun d s1 => match d with | .str z => .ok (charsD z, noChk) s1 | _ => .bad
/-! ### a module's constant -/
/-- the module's name x holds d -/
def GV (G : Gz) (x : Str) (d : Dv) : Prop := ∃ u, G.mg x = some u ∧ ∃ v, RelV v u ∧ ∀ (B : Lo) (H : Hp), Rp G.K B H d v
theorem GV.str {G : Gz} {x z : Str} {t : Tok} (h : G.mg x = some (.str z t)) : GV G x (.str z) := ⟨_, h, .str z, ⟨t, rfl⟩, fun _ _ => .str z⟩
theorem GV.int {G : Gz} {x : Str} {i : Int} {t : Tok} (h : G.mg x = some (.int i t)) : GV G x (.int i) := ⟨_, h, .int i, ⟨t, rfl⟩, fun _ _ => .int i⟩
end

/-! ### enumerate(tuple) -/
set_option maxHeartbeats 1000000 in
theorem meets_enum1 {v : Value} {o : Obj} {H : Heap → Prop} (B : Begins v o H) :
    Meets (Builtin.«enumerate.__new__» ⟨[.type "enumerate", v], []⟩) (fun _ R s => H s.heap ∧
      R (.ok (.ret (.ref (s.heap.push o).objs.size))) { s with heap := (s.heap.push o).push { cls := .type "enumerate", data := .fields #[.none, .bool false, .ref s.heap.objs.size, rawInt 0, .none, .none] } }) :=
  .of_wp fun prog w A R s h => by
    obtain ⟨hp, g, d, tk, os⟩ := s; obtain ⟨h1, h⟩ := h
    have hsub := sub_enumerate
    have q1 : ∀ {A' : Around} {E : Value → Shared → Prop} {Q : Value → Shared → Prop}, Q (.ref hp.objs.size) ⟨hp.push o, g, d, tk, os⟩ → wpAny (model prog w) A' (pyIter v) Q E ⟨hp, g, d, tk, os⟩ :=
      fun q => B.iter prog w _ _ ⟨hp, g, d, tk, os⟩ _ h1 q
    wp_walk using q1
    refine wpAny_stack_any fun st => wpAny_pure ?_
    split
    · rename_i c _ _ _ _ _
      cases (c == Value.type "enumerate")
      · wp_walk using q1
        exact ⟨_, rfl, h⟩
      · wp_walk using q1
        exact ⟨_, rfl, h⟩
    · wp_walk using q1
      exact ⟨_, rfl, h⟩
theorem call_enum1 {prog : Program} {w : World} {A : Around} {E : Value → Shared → Prop} {s : Shared} {v : Value} {o : Obj} {H : Heap → Prop} {Q : Value → Shared → Prop} (B : Begins v o H) (h1 : H s.heap)
    (h : ∀ h', IsEnum h' (s.heap.objs.size + 1) s.heap.objs.size 0 .none → h'.get? s.heap.objs.size = some o → h'.objs.size = s.heap.objs.size + 2 →
      (∀ b o, s.heap.get? b = some o → h'.get? b = some o) → Q (.ref (s.heap.objs.size + 1)) { s with heap := h' }) :
    wpAny (model prog w) A (call (.type "enumerate") [v]) Q E s := by
  refine callType_new F.called_enumerate (by decide) (F.typeCall_enumerate_1 _) (F.newCall_enumerate_1 _) (fun obj => F.args_object_init_2 obj _) F.entry_enumerate_new (meets_enum1 B) ⟨h1, ?_⟩
  have hz : (s.heap.push o).objs.size = s.heap.objs.size + 1 := Heap.size_push ..
  show _ ∧ _
  rw [hz]
  have he : IsEnum ((s.heap.push o).push { cls := .type "enumerate", data := .fields #[.none, .bool false, .ref s.heap.objs.size, rawInt 0, .none, .none] }) (s.heap.objs.size + 1) s.heap.objs.size 0 .none := by
    have := Heap.get?_push_size (s.heap.push o) (o := { cls := .type "enumerate", data := .fields #[.none, .bool false, .ref s.heap.objs.size, rawInt 0, .none, .none] }) rfl
    rw [hz] at this; exact this
  refine ⟨⟨_, he, rfl⟩, h _ he (Heap.get?_push_of_some _ (Heap.get?_push_size _ B.free)) (by rw [Heap.size_push, hz]) fun b o x => Heap.get?_push_of_some _ (Heap.get?_push_of_some _ x)⟩
/-- the tuple at a, each item in a new pair behind its place -/
def IteT (K : PySem.W.Frag) (a : Addr) : It :=
  ⟨fun i H => ∃ (xs : List V) (x : V), SqT K H a xs ∧ xs[i]? = some x, fun i H v H' => ∃ T x, v = .ref T ∧ H T = none ∧ H' = upd H T (.tup [.int (i : Nat), x]) ∧ ∀ xs, SqT K H a xs → xs[i]? = some x, fun i H => ∃ xs : List V, SqT K H a xs ∧ xs.length ≤ i⟩
theorem turn_enumT {P : Program} {w : World} {K : PySem.W.Frag} {elts : List Expr} {kk : Nat} {tpos : Pos} (a e it : Addr) :
    Turn P w K (.Tuple elts kk tpos) (IteT K a) [e, it] e (fun i h => (∃ old, IsEnum h e it ((i : Nat) : Int) old) ∧ h.IsTupleIter it a i ∧ e ≠ it ∧ e ≠ a ∧ a ≠ it) where
  mem := by simp
  obj := fun i h st b hb => by
    obtain ⟨⟨old, he⟩, ⟨o, ho, hc, hd⟩, _⟩ := st
    have e' : b = e ∨ b = it := by simpa using hb
    rcases e' with z | z
    · rw [z]; exact ⟨_, he, fun v q => nomatch q⟩
    · rw [z]; exact ⟨o, ho, fun v q => by rw [hd] at q; cases q⟩
  keep := fun i h h' st k => let ⟨⟨old, he⟩, hi, hne⟩ := st; ⟨⟨old, k e (by simp) _ he⟩, hi.at fun o q => k it (by simp) o q, hne⟩
  item := by
    intro X hP hw hK hc i pins s σ H E I hf st hg
    subst hP hw hK
    obtain ⟨⟨old, he⟩, hit, hne, hea, hai⟩ := st
    obtain ⟨xs, x, hq, hx⟩ := hg
    obtain ⟨its, rv, p, hz⟩ := I.tuple hq
    obtain ⟨u, hu, ru⟩ := rv.get hx
    have hu' : its.toArray[i]? = some u := by simpa using hu
    have hel : e < s.heap.objs.size := Heap.lt_size he
    have hil : it < s.heap.objs.size := by obtain ⟨_, q, _⟩ := hit; exact Heap.lt_size q
    have D := Draws.tuple (prog := X.prog) (w := X.w) (A := X.A.in1) (I.ok.hd hc) it a hai its.toArray
    have hlt : i < its.toArray.size := (Array.getElem?_eq_some_iff.mp hu').1
    refine wpAny_pyNext_enum_itemD D he ⟨hit, p⟩ hlt hne (by simp [hne, hea]) fun x' h' tk hp' ho hst' hT hsz hk => ?_
    have hp' : its.toArray[i]? = some x' := hp'
    rw [hu'] at hp'; cases hp'
    obtain ⟨hit', _⟩ := hst'
    refine ⟨_, rfl, wpAny_letOwnedTupleGo_enum (s := { s with heap := h', toks := tk + 1 }) ho fun h'' he' sb => ?_⟩
    have hT2 : h''.get? s.heap.objs.size = some { cls := .type "tuple", data := .seq #[.int i tk, u] } := (sb.2 _ (Nat.ne_of_gt hel)).trans hT
    have new : ObjOk X.prog X.w (upd H s.heap.objs.size (.tup [.int (i : Nat), x])) h'' s.heap.objs.size (.tup [.int (i : Nat), x]) :=
      ⟨by show 2 ≤ sizeLine; decide, [.int i tk, u], .cons ⟨_, rfl⟩ (.cons ru .nil), ⟨_, hT2, rfl, _, rfl⟩⟩
    have I1 : Inv X pins σ (upd H s.heap.objs.size (.tup [.int (i : Nat), x])) { s with heap := h'', toks := tk + 1 } :=
      I.turnedNew (ch := [e, it]) (fun b ob hb q => (sb.2 b (fun z => hb (by simp [z]))).trans (hk b ob (fun z => hb (by simp [z])) (fun z => hb (by simp [z])) q)) hf (Nat.le_refl _) new
    refine ⟨.ref s.heap.objs.size, _, I1, rfl, ⟨_, x, rfl, I.hok.fresh (Nat.le_refl _), rfl, fun ys hy => by rw [I.tuple_inj hy hq]; exact hx⟩, ⟨⟨u, ?_⟩, hit'.at fun o q => (sb.2 it (Ne.symm hne)).trans q, hne, hea, hai⟩, fun b hb => ?_⟩
    · have e1 : ((i + 1 : Nat) : Int) = (i : Int) + 1 := by omega
      rw [e1]; exact he'
    · have hb' : b < s.heap.objs.size := by
        have e' : b = e ∨ b = it := by simpa using hb
        rcases e' with z | z
        · rw [z]; exact hel
        · rw [z]; exact hil
      rw [upd_ne (Nat.ne_of_lt hb')]
      exact (hf b hb).1
  done := by
    intro X hP hw hK hc i pins s σ H E I hf st hg
    subst hP hw hK
    obtain ⟨⟨old, he⟩, hit, hne, hea, hai⟩ := st
    obtain ⟨xs, hq, hx⟩ := hg
    obtain ⟨its, rv, p, hz⟩ := I.tuple hq
    obtain ⟨f0, f1, f2, f3, f4, f5⟩ := hf it (by simp)
    have hl := rv.length
    -- behind its last item nothing is drawn
    have hT : s.TypeIs (.ref e) "enumerate" := ⟨_, he, rfl⟩
    unfold pyNext
    refine wpAny_bind (wpAny_attempt (wpAny_callSpecial?_slot (name := Str.ofString "__next__") hT F.slot_enumerate_next
      (wpAny_call_entry F.slot_enumerate_next hT F.entry_enumerate_next ?_ (F.args_enumerate_next_1 _))))
    show wpAny _ _ (field (.ref e) 2 >>= _) _ _ _
    refine wpAny_bind (wpAny_field he rfl (x := .ref it) rfl ?_)
    refine wpAny_bind (wpAny_nextOf_tuple_end (I.ok.hd hc) hit (show s.heap.IsTuple a its.toArray from p) (by rw [Array.getElem?_eq_none_iff, List.size_toArray, ← hl]; exact hx) fun h' x he' hx' => ?_)
    obtain ⟨o, ho, hc⟩ := hx'
    refine wpAny_bind (wpAny_isInstance (T := "StopIteration") (b := true) ⟨o, ho, hc⟩ isSubtype_stop ?_)
    exact wpAny_pure ⟨rfl, I.turned (t' := s.toks) (fun b o hb q => he' b o hb q) f0 f1 f3 f4 f5⟩
  self := fun A i s Q E st h => let ⟨⟨_, he⟩, _⟩ := st; wpAny_pyIter_enum he h
def iEnumT (K : PySem.W.Frag) (ta : TA) : TI := fun σ H R => ta σ H fun vs H1 => ∃ a xs, vs = [.ref a] ∧ ((SqL K H1 a xs ∧ R (Ite K a) H1) ∨ (SqT K H1 a xs ∧ R (IteT K a) H1))
theorem pi_enumA {X : Cx} {e : Expr} {ta : TA} {p pos tpos : Pos} {elts : List Expr} {kk : Nat} (hg : Gl X "enumerate") (hm : X.mg "enumerate" = none) (ha : PA X [e] ta) (hs : starEach [e] X.env = [(false, eval e X.env)] := by rfl) :
    PI X (.Tuple elts kk tpos) (.Call (.Name "enumerate" p) [e] [] pos) (iEnumT X.K ta) := by
  refine ⟨fun pins s σ H R I h => ?_⟩
  refine Call_ (ld_blt I hg hm boot_enumerate (PyProof.Rows.callWith_type1 (thn (ha.run pos pins s σ H _ I h) fun us s1 ⟨vs, H1, I1, r1, q1⟩ => ?_) hs rfl))
  obtain ⟨a, xs, ex, q⟩ := q1
  subst ex
  cases r1 with
  | cons r rr =>
    cases rr
    cases r
    rcases q with ⟨hq, q⟩ | ⟨hq, q⟩
    · obtain ⟨its, rv, p', hz⟩ := I1.list hq
      refine call_enumerate_list p'.isList fun h' he hit hsz hk => wpAny_pyIter_enum he ?_
      have I2 : Inv X pins σ H1 { s1 with heap := h' } := I1.kept (t' := s1.toks) hk
      refine ⟨s1.heap.objs.size + 1, [s1.heap.objs.size + 1, s1.heap.objs.size], _, _, H1, rfl, I2, turn_enum a (s1.heap.objs.size + 1) s1.heap.objs.size, ⟨⟨.none, he⟩, hit, Nat.succ_ne_self _⟩, fun b hb => ?_, q⟩
      have e' : b = s1.heap.objs.size + 1 ∨ b = s1.heap.objs.size := by simpa using hb
      have hle : s1.heap.objs.size ≤ b := by
        rcases e' with z | z
        · rw [z]; exact Nat.le_add_right _ _
        · rw [z]; exact Nat.le_refl _
      exact I1.fpOk hle (I1.hok.fresh hle)
    · obtain ⟨its, rv, p', hz⟩ := I1.tuple hq
      have hlt : a < s1.heap.objs.size := by obtain ⟨_, q, _⟩ := p'; exact Heap.lt_size q
      refine call_enum1 (begins_tuple a its.toArray) (show s1.heap.IsTuple a its.toArray from p') fun h' he hit hsz hk => wpAny_pyIter_enum he ?_
      have I2 : Inv X pins σ H1 { s1 with heap := h' } := I1.kept (t' := s1.toks) hk
      refine ⟨s1.heap.objs.size + 1, [s1.heap.objs.size + 1, s1.heap.objs.size], _, _, H1, rfl, I2, turn_enumT a (s1.heap.objs.size + 1) s1.heap.objs.size, ⟨⟨.none, he⟩, ⟨_, hit, rfl, rfl⟩, Nat.succ_ne_self _, Nat.ne_of_gt (Nat.lt_succ_of_lt hlt), Nat.ne_of_lt hlt⟩, fun b hb => ?_, q⟩
      have e' : b = s1.heap.objs.size + 1 ∨ b = s1.heap.objs.size := by simpa using hb
      have hle : s1.heap.objs.size ≤ b := by
        rcases e' with z | z
        · rw [z]; exact Nat.le_add_right _ _
        · rw [z]; exact Nat.le_refl _
      exact I1.fpOk hle (I1.hok.fresh hle)
end Z

namespace Z
open PySem PySem.Spec PyProof.Rows L2

/-! ### enumerate, zip, reversed -/
def srcOf (d : Dv) (s : Sto) : Option Src := match d with
  | .tup ds => some (ds, noChk)
  | .ls ds => some (ds, noChk)
  | .loc n => match s[n]? with | some (.lst ds) => some (ds, isLst n ds) | _ => none
  | _ => none
def AtL (K : PySem.W.Frag) (B : Lo) (H : Hp) (a : Addr) (src : Src) : Prop := (∃ xs, SqL K H a xs ∧ Rps K B H src.1 xs) ∧ ∀ (B1 : Lo) (H1 : Hp) (s1 : Sto), Ext B H B1 H1 → Sim K B1 H1 s1 → src.2 s1 = true → ∃ xs, SqL K H1 a xs ∧ Rps K B1 H1 src.1 xs
def AtT (K : PySem.W.Frag) (B : Lo) (H : Hp) (a : Addr) (src : Src) : Prop := (∃ xs, SqT K H a xs ∧ Rps K B H src.1 xs) ∧ ∀ (B1 : Lo) (H1 : Hp) (s1 : Sto), Ext B H B1 H1 → Sim K B1 H1 s1 → src.2 s1 = true → ∃ xs, SqT K H1 a xs ∧ Rps K B1 H1 src.1 xs
theorem at_of {K : PySem.W.Frag} {B : Lo} {H : Hp} {s : Sto} (S : Sim K B H s) {d : Dv} {v : V} {src : Src} (r : Rp K B H d v) (h : srcOf d s = some src) : ∃ a, v = .ref a ∧ ((isL d s = true ∧ AtL K B H a src) ∨ (isT d s = true ∧ AtT K B H a src)) := by
  cases r with
  | tup h1 h2 =>
    cases h
    exact ⟨_, rfl, .inr ⟨rfl, ⟨_, h1.sq, h2⟩, fun B1 H1 s1 x S1 _ => ⟨_, (x.mo.tk h1).sq, h2.mono x.mo⟩⟩⟩
  | ls h1 h2 =>
    cases h
    exact ⟨_, rfl, .inl ⟨rfl, ⟨_, h1.sq, h2⟩, fun B1 H1 s1 x S1 _ => ⟨_, (x.mo.ls h1).sq, h2.mono x.mo⟩⟩⟩
  | @loc n a h1 =>
    obtain ⟨o, ho, ro⟩ := S.at h1
    unfold srcOf at h
    simp only [ho] at h
    cases o with
    | lst es =>
      cases h
      obtain ⟨xs, e1, e2⟩ := ro
      refine ⟨_, rfl, .inl ⟨by unfold isL; simp only [ho], ⟨xs, .of e1, e2⟩, fun B1 H1 s1 x S1 hc => ?_⟩⟩
      have h5 := isLst_at hc
      obtain ⟨o, ho, ro⟩ := S1.at (pre_get x.mo.pre h1)
      rw [h5] at ho; cases ho
      obtain ⟨ys, h6, h7⟩ := ro
      exact ⟨ys, .of h6, h7⟩
    | _ => cases h
  | _ => cases h
def enumD (ds : List Dv) : List Dv := ds.mapIdx fun i d => .tup [.int (i : Nat), d]
theorem enumD_get {ds : List Dv} {i : Nat} {e : Dv} (h : (enumD ds)[i]? = some e) : ∃ d, ds[i]? = some d ∧ e = .tup [.int (i : Nat), d] := by
  unfold enumD at h
  rw [List.getElem?_mapIdx] at h
  obtain ⟨d, h1, h2⟩ := Option.map_eq_some_iff.mp h
  exact ⟨d, h1, h2.symm⟩
theorem enumD_len (ds : List Dv) : (enumD ds).length = ds.length := by simp [enumD]
/-- a new pair for the loop's target alone -/
theorem pair_rel {K : PySem.W.Frag} {B : Lo} {H : Hp} {s : Sto} (S : Sim K B H s) {T : Addr} (hT : H T = none) {d1 d2 : Dv} {v1 v2 : V} (r1 : Rp K B H d1 v1) (r2 : Rp K B H d2 v2) :
    Ext B H B (upd H T (.tup [v1, v2])) ∧ Sim K B (upd H T (.tup [v1, v2])) s ∧ Rel K true B (upd H T (.tup [v1, v2])) (.tup [d1, d2]) (.ref T) := by
  have m := Mo.laid (B := B) (o := .tup [v1, v2]) hT
  exact ⟨Ext.laid hT, S.laid hT, .inr ⟨T, [v1, v2], [d1, d2], rfl, rfl, .inl (.inl upd_same), .cons (r1.mono m) (.cons (r2.mono m) .nil)⟩⟩
def fEnum (f : Fn (List Dv)) : Fn Src := fun env s => (f env s).bind fun ds s1 => match ds with
  | [d] => match srcOf d s1 with | some src => .ok (enumD src.1, src.2) s1 | none => .bad
  | _ => .bad
def zipD (ds es : List Dv) : List Dv := List.zipWith (fun a b => .tup [a, b]) ds es
theorem zipD_get {ds es : List Dv} {i : Nat} {e : Dv} (h : (zipD ds es)[i]? = some e) : ∃ a b, ds[i]? = some a ∧ es[i]? = some b ∧ e = .tup [a, b] := by
  unfold zipD at h
  rw [List.getElem?_zipWith] at h
  split at h
  · rename_i a b h1 h2
    exact ⟨a, b, h1, h2, (Option.some.inj h).symm⟩
  · cases h
def fZip (f : Fn (List Dv)) : Fn Src := fun env s => (f env s).bind fun ds s1 => match ds with
  | [d, e] => match srcOf d s1, srcOf e s1 with
    | some a, some b => Rs.iff ((isL d s1 && isL e s1) || (isT d s1 && isT e s1)) (.ok (zipD a.1 b.1, fun s => a.2 s && b.2 s) s1)
    | _, _ => .bad
  | _ => .bad
def fRevI (f : Fn Dv) : Fn Src := fun env s => (f env s).bind fun d s1 => match srcOf d s1 with | some src => .ok (src.1.reverse, src.2) s1 | none => .bad
section
variable {G : Gz} {bs : List Str} {k : Nat} {X : Cx} {N : List Str} {nm : List (Str × NameKind)} {ow : Str → Bool} {a b e e2 tg : Expr} {elts : List Expr} {kk : Nat} {fa fb fc : Fn Dv} {fs : Fn (List Dv)} {pos p tpos : Pos} {q : Bool}
theorem zi_enum (c : Cz G bs k X N nm ow) (ha : ZA X [e] fs) (hb : bOk bs nm "enumerate" = true := by decide +kernel) (hs : starEach [e] X.env = [(false, eval e X.env)] := by rfl) : ZI X true (.Tuple elts kk tpos) (.Call (.Name "enumerate" p) [e] [] pos) (fEnum fs) := by
  refine pi_mono (pi_enumA (c.blt hb).1 (c.blt hb).2 ha hs) fun σ H R h => ?_
  obtain ⟨B, env, s, src, s', hE, hS, hf, hQ⟩ := h
  obtain ⟨ds, s1, h1, hf⟩ := Rs.bind_ok hf
  split at hf
  · split at hf
    · rename_i sr e1
      cases hf
      refine ⟨B, env, s, _, _, hE, hS, h1, fun B1 H1 vs x1 ee S1 r1 => ?_⟩
      cases r1 with
      | cons r rr =>
        cases rr
        obtain ⟨a, rfl, hx⟩ := at_of S1 r e1
        rcases hx with ⟨_, ⟨xs, h3, _⟩, hA⟩ | ⟨_, ⟨xs, h3, _⟩, hA⟩
        · refine ⟨a, xs, rfl, .inl ⟨h3, hQ B1 H1 _ x1 ee S1 fun B2 H2 s2 x2 S2 hc => ?_⟩⟩
          obtain ⟨ys, h4, h5⟩ := hA B2 H2 s2 x2 S2 hc
          refine ⟨fun i d hd => ?_, ys, h4, by rw [enumD_len, ← h5.length]; exact Nat.le_refl _⟩
          obtain ⟨d', g1, rfl⟩ := enumD_get hd
          obtain ⟨v, g2, g3⟩ := h5.get g1
          refine ⟨⟨ys, v, h4, g2⟩, fun y H3 hy => ?_⟩
          obtain ⟨T, v', rfl, hT, rfl, hv⟩ := hy
          have := hv ys h4
          rw [g2] at this; cases this
          exact pair_rel S2 hT (.int _) g3
        · refine ⟨a, xs, rfl, .inr ⟨h3, hQ B1 H1 _ x1 ee S1 fun B2 H2 s2 x2 S2 hc => ?_⟩⟩
          obtain ⟨ys, h4, h5⟩ := hA B2 H2 s2 x2 S2 hc
          refine ⟨fun i d hd => ?_, ys, h4, by rw [enumD_len, ← h5.length]; exact Nat.le_refl _⟩
          obtain ⟨d', g1, rfl⟩ := enumD_get hd
          obtain ⟨v, g2, g3⟩ := h5.get g1
          refine ⟨⟨ys, v, h4, g2⟩, fun y H3 hy => ?_⟩
          obtain ⟨T, v', rfl, hT, rfl, hv⟩ := hy
          have := hv ys h4
          rw [g2] at this; cases this
          exact pair_rel S2 hT (.int _) g3
    · cases hf
  · cases hf
theorem zi_zip (c : Cz G bs k X N nm ow) (ha : ZA X [e, e2] fs) (hb : bOk bs nm "zip" = true := by decide +kernel) (hs : starEach [e, e2] X.env = (false, eval e X.env) :: starEach [e2] X.env := by rfl) (hpl : (backTo pos (starEach [e2] X.env)).any (·.1) = false := by rfl) :
    ZI X true (.Tuple elts kk tpos) (.Call (.Name "zip" p) [e, e2] [] pos) (fZip fs) := by
  refine pi_mono (RZ.pi_zipA (c.blt hb).1 (c.blt hb).2 ha hs hpl) fun σ H R h => ?_
  obtain ⟨B, env, s, src, s', hE, hS, hf, hQ⟩ := h
  obtain ⟨ds, s1, h1, hf⟩ := Rs.bind_ok hf
  split at hf
  · split at hf
    · rename_i sa sb e1 e2
      obtain ⟨hk, hf⟩ := Rs.iff_ok hf
      cases hf
      refine ⟨B, env, s, _, _, hE, hS, h1, fun B1 H1 vs x1 ee S1 r1 => ?_⟩
      cases r1 with
      | cons r rr =>
        cases rr with
        | cons r' rr =>
          cases rr
          obtain ⟨a, rfl, hx⟩ := at_of S1 r e1
          obtain ⟨b, rfl, hy⟩ := at_of S1 r' e2
          have len : ∀ {xs ys : List V} {i : Nat} {B : Lo} {H : Hp}, Rps X.K B H sa.1 xs → Rps X.K B H sb.1 ys → xs.length ≤ (zipD sa.1 sb.1).length ∨ ys.length ≤ (zipD sa.1 sb.1).length := fun {xs ys i B H} h5 h6 => by
            rw [← h5.length, ← h6.length]
            simp only [zipD, List.length_zipWith]
            omega
          rcases hx with ⟨k1, ⟨xs, h3, _⟩, hA⟩ | ⟨k1, ⟨xs, h3, _⟩, hA⟩ <;> rcases hy with ⟨k2, ⟨ys, h4, _⟩, hB⟩ | ⟨k2, ⟨ys, h4, _⟩, hB⟩
          · refine ⟨a, b, xs, ys, rfl, .inl ⟨h3, h4, hQ B1 H1 _ x1 ee S1 fun B2 H2 s2 x2 S2 hc => ?_⟩⟩
            rw [Bool.and_eq_true] at hc
            obtain ⟨us, h5, h6⟩ := hA B2 H2 s2 x2 S2 hc.1
            obtain ⟨ws, h7, h8⟩ := hB B2 H2 s2 x2 S2 hc.2
            refine ⟨fun i d hd => ?_, us, ws, h5, h7, len (i := 0) h6 h8⟩
            obtain ⟨d1, d2, g1, g2, rfl⟩ := zipD_get hd
            obtain ⟨v1, g3, g4⟩ := h6.get g1
            obtain ⟨v2, g5, g6⟩ := h8.get g2
            refine ⟨⟨us, ws, v1, v2, h5, h7, g3, g5⟩, fun y H3 hy => ?_⟩
            obtain ⟨T, w1, w2, rfl, hT, rfl, hv1, hv2⟩ := hy
            have q1 := hv1 us h5
            have q2 := hv2 ws h7
            rw [g3] at q1; cases q1
            rw [g5] at q2; cases q2
            exact pair_rel S2 hT g4 g6
          · exfalso
            cases r <;> cases r' <;> simp [isL, isT] at k1 k2 hk
          · exfalso
            cases r <;> cases r' <;> simp [isL, isT] at k1 k2 hk
          · refine ⟨a, b, xs, ys, rfl, .inr ⟨h3, h4, hQ B1 H1 _ x1 ee S1 fun B2 H2 s2 x2 S2 hc => ?_⟩⟩
            rw [Bool.and_eq_true] at hc
            obtain ⟨us, h5, h6⟩ := hA B2 H2 s2 x2 S2 hc.1
            obtain ⟨ws, h7, h8⟩ := hB B2 H2 s2 x2 S2 hc.2
            refine ⟨fun i d hd => ?_, us, ws, h5, h7, len (i := 0) h6 h8⟩
            obtain ⟨d1, d2, g1, g2, rfl⟩ := zipD_get hd
            obtain ⟨v1, g3, g4⟩ := h6.get g1
            obtain ⟨v2, g5, g6⟩ := h8.get g2
            refine ⟨⟨us, ws, v1, v2, h5, h7, g3, g5⟩, fun y H3 hy => ?_⟩
            obtain ⟨T, w1, w2, rfl, hT, rfl, hv1, hv2⟩ := hy
            have q1 := hv1 us h5
            have q2 := hv2 ws h7
            rw [g3] at q1; cases q1
            rw [g5] at q2; cases q2
            exact pair_rel S2 hT g4 g6
    · cases hf
  · cases hf
end
end Z

namespace Z
open PySem PySem.Spec PyProof.Rows L2

/-! ### sum of a list or a tuple; the greatest, the least of a list -/
def rSumA (K : PySem.W.Frag) : List V → Hp → VK → Prop := fun vs H Q => ∃ (a : Addr) (ns : List Int), vs = [V.ref a] ∧ (SqL K H a (ns.map V.int) ∨ SqT K H a (ns.map V.int)) ∧ Q (.int ns.sum) H
theorem cr_sumA {X : Cx} (hc : X.calm = true) : CallR X (.builtin "sum") (rSumA X.K) := by
  intro pins s σ H vs us Q I r h
  obtain ⟨a, ns, rfl, hs, q⟩ := h
  rcases hs with hs | hs
  · exact cr_sum hc pins s σ H _ us Q I r ⟨a, ns, rfl, hs, q⟩
  · obtain ⟨its, rv, ht, _⟩ := I.tuple hs
    rw [Vals.ref1 r]
    have hi := rv.ints
    obtain ⟨xs, e⟩ := hi.allInts.items
    have hn : numsOf (intItems xs).toList = ns := by rw [← e]; exact hi.numsOf
    rw [nums_intItems] at hn
    rw [e] at ht
    refine PySem.W.ktm_sumG (I.ok.hd hc) ht fun h' tk t' hk => ?_
    rw [preSum_eq, List.take_of_length_le (by simp), hn]
    exact ⟨.int _, H, I.kept hk, ⟨_, rfl⟩, q⟩
def gSum (xs : List Dv) (s : Sto) : Rs Dv := match xs with
  | [x] => match (seqOf s x).bind intsOf with | some a => .ok (.int a.sum) s | none => .bad
  | _ => .bad
theorem cz_sum {K : PySem.W.Frag} : CallZ K (rSumA K) gSum := by
  intro B H s xs vs d s' Q S r h q
  unfold gSum at h
  split at h
  · split at h
    · rename_i ns e1
      cases h
      obtain ⟨ds, e2, e3⟩ := Option.bind_eq_some_iff.mp e1
      cases r with
      | cons r1 rr =>
        cases rr
        obtain ⟨a, us, rfl, hq, r2⟩ := seq_of S r1 e2
        have := ints_rp r2 e3
        subst this
        exact ⟨a, ns, rfl, hq, q.same S (.int _)⟩
    · cases h
  · cases h
def gExt1 (le : Int → Int → Bool) (xs : List Dv) (s : Sto) : Rs Dv := match xs with
  | [x] => match (seqOf s x).bind intsOf with
    | some (n :: r) => Rs.iff (isL x s) (.ok (.int (r.foldl (fun a b => if le a b = true then a else b) n)) s)
    | _ => .bad
  | _ => .bad
section
variable {G : Gz} {bs : List Str} {k : Nat} {X : Cx} {N : List Str} {nm : List (Str × NameKind)} {ow : Str → Bool} {a b e : Expr} {fa fb fc : Fn Dv} {fs : Fn (List Dv)} {pos p : Pos}
theorem z_sum (c : Cz G bs k X N nm ow) (ha : ZA X [e] fs) (hb : bOk bs nm "sum" = true := by decide +kernel) (he : starEach [e] X.env = (false, eval e X.env) :: starEach [] X.env := by rfl) : ZE X (.Call (.Name "sum" p) [e] [] pos) (fCall gSum fs) :=
  z_callB c (cr_sumA c.calm) cz_sum ha (by decide +kernel) hb (by decide +kernel) (by decide +kernel) he rfl
end
end Z

namespace Z
open PySem PySem.Spec PyProof.Rows L2

/-! ### int(x), abs(x) -/
def gToInt (xs : List Dv) (s : Sto) : Rs Dv := match xs with
  | [.int i] => .ok (.int i) s
  | [.bl b] => .ok (.int (if b = true then 1 else 0)) s
  | _ => .bad
theorem cr_toInt {X : Cx} : CallR X (.type "int") (fun xs H Q => (∃ i, xs = [.int i] ∧ Q (.int i) H) ∨ ∃ b, xs = [.bl b] ∧ Q (.int (if b = true then 1 else 0)) H) := by
  intro pins s σ H xs us Q I r h
  rcases h with ⟨i, rfl, q⟩ | ⟨b, rfl, q⟩
  · obtain ⟨u, rfl, t, rfl⟩ := Vals.one r
    exact PySem.call_int_int ⟨.int i, H, I, ⟨_, rfl⟩, q⟩
  · obtain ⟨u, rfl, rx⟩ := Vals.one r
    obtain rfl : u = Value.bool b := rx
    exact PySem.call_int_bool ⟨.int _, H, I.tok _, ⟨_, rfl⟩, q⟩
theorem cz_toInt {K : PySem.W.Frag} : CallZ K (fun xs H Q => (∃ i, xs = [.int i] ∧ Q (.int i) H) ∨ ∃ b, xs = [.bl b] ∧ Q (.int (if b = true then 1 else 0)) H) gToInt := by
  intro B H s xs vs d s' Q S r h q
  unfold gToInt at h
  split at h
  · cases h
    cases r with
    | cons r1 rr => cases r1; cases rr; exact .inl ⟨_, rfl, q.same S (.int _)⟩
  · cases h
    cases r with
    | cons r1 rr => cases r1; cases rr; exact .inr ⟨_, rfl, q.same S (.int _)⟩
  · cases h
def gAbs (xs : List Dv) (s : Sto) : Rs Dv := match xs with
  | [.int i] => .ok (.int (if i < 0 then -i else i)) s
  | _ => .bad
section
variable {G : Gz} {bs : List Str} {k : Nat} {X : Cx} {N : List Str} {nm : List (Str × NameKind)} {ow : Str → Bool} {a b e : Expr} {es : List Expr} {fa fb fc : Fn Dv} {fs gs : Fn (List Dv)} {pos p kpos : Pos} {x : Str} {n : Nat} {φ : Phi}
theorem z_toint (c : Cz G bs k X N nm ow) (ha : ZA X [e] fs) (hb : bOk bs nm "int" = true := by decide +kernel) (he : starEach [e] X.env = (false, eval e X.env) :: starEach [] X.env := by rfl) : ZE X (.Call (.Name "int" p) [e] [] pos) (fCall gToInt fs) :=
  z_callTy c cr_toInt cz_toInt ha (by decide +kernel) hb (by decide +kernel) (by decide +kernel) he rfl
/-! ### defs with defaults, calls with keywords -/
/-- the def x of the module, its parameters' names told: dvs are the defaults of its last ones -/
structure Fd (G : Gz) (k : Nat) (x : Str) (n : Nat) (φ : Phi) (f : Addr) (fd : FuncData) (ps : List Str) : Prop where
  len : ∀ ds s d s', φ ds s = .ok d s' → ds.length = n
  mg : G.mg x = some (.ref f)
  kp : PySem.W.keepIn G.K (.ref f) = true
  hn : ps.length = n
  run : FnZ G k f fd ps (spZ G.K n φ)
theorem Fd.mono {G : Gz} {j k : Nat} {x : Str} {n : Nat} {φ : Phi} {f : Addr} {fd : FuncData} {ps : List Str} (F : Fd G j x n φ f fd ps) (h : j ≤ k) : Fd G k x n φ f fd ps := ⟨F.len, F.mg, F.kp, F.hn, F.run.mono h⟩
/-- constants as defaults -/
def cV : Dv → Option V
  | .non => some .non
  | .bl b => some (.bl b)
  | .int i => some (.int i)
  | .str z => some (.str z)
  | _ => none
def fCallD (φ : Phi) (ds : List Dv) (f : Fn (List Dv)) : Fn Dv := fun env s => (f env s).bind fun xs s1 => φ (xs ++ ds) s1
/-- the values of keywords -/
abbrev ZK (X : Cx) (kws : List Keyword) (f : Fn (List Dv)) : Prop := PK X kws (tOfA X.K f)
def fCallK (φ : Phi) (m j : Nat) (f g : Fn (List Dv)) : Fn Dv := fun env s => (f env s).bind fun xs s1 => (g env s1).bind fun zs s2 => Rs.iff (xs.length == m && zs.length == j) (φ (xs ++ zs) s2)
end
end Z

namespace Z
open PySem PySem.Spec PyProof.Rows L2

/-! ### text * int, tuple * int -/
def rMulS : R2 := fun x y H Q => ∃ z i, x = .str z ∧ y = .int i ∧ z.length ≤ 16 ∧ 0 ≤ i ∧ i ≤ 1000000 ∧ Q (.str (Txt.mul z i)) H
def rMulT (K : PySem.W.Frag) : R2 := fun x y H Q => ∃ l k xs, x = .ref l ∧ y = .int k ∧ SqT K H l xs ∧ xs ≠ [] ∧ 2 ≤ k ∧ k ≤ 1000 ∧ xs.length ≤ 1000 ∧ ∀ p o, H p = none → o.dict = none → Q (.ref p) (upd H p (.frz o (.tup (List.replicate k.toNat xs).flatten)))
def gTimes (x y : Dv) (s : Sto) : Rs Dv := match x, y with
  | .int i, .int j => Rs.iff (cMul i j) (.ok (.int (i * j)) s)
  | .str z, .int i => Rs.iff (decide (z.length ≤ 16) && decide (0 ≤ i) && decide (i ≤ 1000000)) (.ok (.str (Txt.mul z i)) s)
  | .tup ds, .int k => Rs.iff (!ds.isEmpty && decide (2 ≤ k) && decide (k ≤ 1000) && decide (ds.length ≤ 1000)) (.ok (.tup (List.replicate k.toNat ds).flatten) s)
  | _, _ => .bad
def rTimes (K : PySem.W.Frag) : R2 := fun x y H Q => rI CMul (fun i j => .int (i * j)) x y H Q ∨ rMulS x y H Q ∨ rMulT K x y H Q
section
variable {X : Cx} {a b : Expr} {fa fb : Fn Dv} {pos : Pos}
end

/-! ### a def that leaves what it made -/
def fDefN (n m : Nat) (body : Fn Ct) (ds : List Dv) (s : Sto) : Rs Dv :=
  Rs.iff (ds.length == n) ((body (ds.map some ++ List.replicate (m - n) none) s).bind fun c s1 => match c with
    | .next _ => .ok .non s1
    | .ret d => .ok d s1
    | _ => .bad)
theorem z_fnN {G : Gz} {bs : List Str} {k : Nat} {x qual : Str} {st : Stmt} {f : Addr} {fd : FuncData} {N ps : List Str} {nm : List (Str × NameKind)} {body : Fn Ct} (F : Fun G.K x qual st f fd) (S : FnScope N ps (defScope st)) (hnm : (defScope st).names = nm)
    (hbl : ∀ y ∈ bs, G.mg y = none) (hbody : ∀ X : Cx, Cz G bs k X N nm (fun _ => true) → ZB X (defBody st) body) : FnZ G (k + 1) f fd ps (spZ G.K ps.length (fDefN ps.length N.length body)) := by
  obtain ⟨oc, od, kV, doc, pm, an, cdv, ct, osl, rfl, lk, hcd⟩ := F.ex
  refine ⟨fun A outer s H args us vs Q hgd hr e0 hb r hsp => ?_⟩
  obtain ⟨hvl, B, ds, st0, d, st1, rd, S0, hf, hQ⟩ := hsp
  have KX : G.K.In s.heap := e0.mod.kin.keeps fun b o e => (e0.bs b o e).1
  have lim : s.heap.NoLimit := e0.mod.nolimit.keeps fun b o e => (e0.bs b o e).1
  have hkind : ∀ y ∈ ps.zip us, (defScope st).names.lookup y.1 = some .local ∨ ((defScope st).names.lookup y.1 = some .cell ∧ ((cellsFrom (s.heap.objs.size + 1) (defScope st).names []).lookup y.1).isSome = true) := fun ⟨n, v⟩ hy => by
    rcases S.par n (List.of_mem_zip hy).1 with q | q
    · exact .inl q
    · exact .inr ⟨q, PySem.W.cellsFrom_some _ _ _ (.inl q)⟩
  refine codeAny_call_function hr.depth (KX _ _ lk) rfl S.co S.gen rfl (PySem.W.codeRec_of KX hcd) (hb _ _ _ _ ?_)
  refine wpAny_newFunctionEnv_cells S.kind hkind fun env he s1 x1 => ?_
  subst he
  refine ⟨lim.keeps x1.toInCall.keep, codeAny_func ?_⟩
  obtain ⟨hdl, hf⟩ := Rs.iff_ok hf
  have hdl : ds.length = ps.length := beq_iff_eq.mp hdl
  obtain ⟨c, s2, hbd, hf⟩ := Rs.bind_ok hf
  have I0 := inv_start (CX := CX0) (E := E0) S hr.hd e0 hvl r x1
  have I : Inv (cxOf CX0 G.prog G.w G.K G.mg G.base N qual (defScope st) f cdv A outer s H E0).nox [] (start N vs) H s1 := I0.wish _
  have cz : Cz G bs k (cxOf CX0 G.prog G.w G.K G.mg G.base N qual (defScope st) f cdv A outer s H E0).nox N nm (fun _ => true) :=
    ⟨rfl, S.nd, S.kind, hnm, rfl, rfl, hr.deeper _, hgd, hbl, rfl, rfl, rfl, rfl, rfl, PassesOwn.never⟩
  have hz := (hbody _ cz).run [] s1 (start N vs) H { nx := fun _ H' => Q .non H', rt := Q } I ⟨B, _, st0, c, s2, start_rp (N := N) rd, S0, by rw [hdl]; exact hbd, ?_⟩
  · refine wpAny_mono hz (fun fl s' hs => ?_) fun _ _ z => False.elim z
    have fin : ∀ {σ' : L2.St} {H' : Hp} {v : V} {u : Value}, Inv (cxOf CX0 G.prog G.w G.K G.mg G.base N qual (defScope st) f cdv A outer s H E0).nox [] σ' H' s' → RelV v u → Q v H' → CE outer G.prog G.w H s Q u s' :=
      fun {σ' H' v u} J rv q => ⟨v, H', J.os, J.bare, J.base, J.hok, rv, q⟩
    cases fl with
    | ret u => obtain ⟨v, σ', H', J, rv, q⟩ := hs; exact fin J rv q
    | next => obtain ⟨σ', H', J, q⟩ := hs; exact fin (v := V.non) (u := Value.none) J rfl q
    | brk => obtain ⟨_, _, _, q⟩ := hs; exact False.elim q
    | cont => obtain ⟨_, _, _, q⟩ := hs; exact False.elim q
  · cases c with
    | next env =>
      cases hf
      exact fun B' H' σ' x e S' _ => hQ B' H' .non x e S' .non
    | ret d' =>
      cases hf
      exact fun B' H' v x e S' r => hQ B' H' v x e S' r
    | brk _ => cases hf
    | cont _ => cases hf
theorem fz_mkN {G : Gz} {bs : List Str} {k n : Nat} {x qual : Str} {st : Stmt} {f : Addr} {fd : FuncData} {N ps : List Str} {nm : List (Str × NameKind)} {body : Fn Ct} (F : Fun G.K x qual st f fd) (hm : G.mg x = some (.ref f)) (hb : Binds G.K fd ps []) (hn : ps.length = n) (S : FnScope N ps (defScope st)) (hnm : (defScope st).names = nm)
    (hbl : ∀ y ∈ bs, G.mg y = none) (hbody : ∀ X : Cx, Cz G bs k X N nm (fun _ => true) → ZB X (defBody st) body) : Fz G (k + 1) x n (fDefN n N.length body) := by
  subst hn
  exact ⟨fun ds s d s' h => beq_iff_eq.mp (Rs.iff_ok h).1, f, fd, ps, hm, F.kp, hb, rfl, z_fnN F S hnm hbl hbody⟩
end Z

/-! # dict(pairs) -/
namespace Z
open PySem PySem.Spec PyProof.Rows L2
def pairsD : List Dv → Option (List (Key × Dv))
  | [] => some []
  | .tup [k, v] :: r => match keyD k, pairsD r with | some k', some r' => some ((k', v) :: r') | _, _ => none
  | _ :: _ => none
def gDictP (xs : List Dv) (s : Sto) : Rs Dv := match xs with
  | [.ls ds] => match pairsD ds with | some kvs => .ok (.loc s.length) (s ++ [.dk (mergeD [] kvs)]) | none => .bad
  | _ => .bad
theorem pairs_rp {K : PySem.W.Frag} {B : Lo} {H : Hp} : ∀ {ds : List Dv} {xs : List V} {kvs : List (Key × Dv)}, Rps K B H ds xs → pairsD ds = some kvs →
    ∃ (ps : List Addr) (ks : List (Key × V)), xs = ps.map V.ref ∧ Paired (fun p (kv : Key × V) => SqT K H p [kV kv.1, kv.2]) ps ks ∧ Paired (fun (p : Key × Dv) (q : Key × V) => p.1 = q.1 ∧ Rp K B H p.2 q.2) kvs ks
  | _, _, _, .nil, h => by cases h; exact ⟨[], [], rfl, .nil, .nil⟩
  | d :: ds, v :: vs, kvs, .cons r1 t, h => by
    unfold pairsD at h
    split at h
    · cases ‹_ :: _ = []›
    · rename_i k w r e
      cases e
      split at h
      · rename_i k' r' e1 e2
        cases h
        obtain ⟨ps, ks, rfl, h3, h4⟩ := pairs_rp t e2
        cases r1 with
        | tup h1 h2 =>
          cases h2 with
          | cons ra h2 => cases h2 with
            | cons rb h2 =>
              cases h2
              have hk := key_rp ra e1
              subst hk
              exact ⟨_ :: ps, (k', _) :: ks, rfl, .cons h1.sq h3, .cons ⟨rfl, rb⟩ h4⟩
      · cases h
    · cases h
theorem cz_dictP {K : PySem.W.Frag} : CallZ K (fun xs H Q => ∃ (a : Addr) (ps : List Addr) (kvs : List (Key × V)), xs = [.ref a] ∧ SqL K H a (ps.map V.ref) ∧ Paired (fun p kv => SqT K H p [kV kv.1, kv.2]) ps kvs ∧
    ∀ p, H p = none → Q (.ref p) (upd H p (.dK (mergeK [] kvs)))) gDictP := by
  intro B H s xs vs d s' Q S r h q
  unfold gDictP at h
  split at h
  · split at h
    · rename_i kvs e1
      cases h
      cases r with
      | cons r1 rr =>
        cases rr
        cases r1 with
        | ls h1 h2 =>
          obtain ⟨ps, ks, rfl, h3, h4⟩ := pairs_rp h2 e1
          refine ⟨_, ps, ks, rfl, h1.sq, h3, fun p hp => ?_⟩
          have a1 := Ext.aside (B := B) (o := .dK (mergeK [] ks)) hp
          have S2 := S.aside (o := .dK (mergeK [] ks)) hp
          refine q ⟨B.locs ++ [p], B.hid⟩ _ _ (a1.adopt hp fun _ h => h) rfl (S2.adopt (o := .dk (mergeD [] kvs)) (S.freeH hp) ⟨_, upd_same, Paired.mapP (merge_rp h4 .nil) fun p q z => ⟨z.1, z.2.mono a1.mo⟩⟩) (.loc ?_)
          rw [← S.len]
          show (B.locs ++ [p])[B.locs.length]? = some p
          rw [List.getElem?_append_right (Nat.le_refl _)]
          simp
    · cases h
  · cases h
section
variable {G : Gz} {bs : List Str} {k : Nat} {X : Cx} {N : List Str} {nm : List (Str × NameKind)} {ow : Str → Bool} {e : Expr} {fs : Fn (List Dv)} {pos p : Pos}
theorem z_dictP (c : Cz G bs k X N nm ow) (ha : ZA X [e] fs) (hb : bOk bs nm "dict" = true := by decide +kernel) (he : starEach [e] X.env = (false, eval e X.env) :: starEach [] X.env := by rfl) : ZE X (.Call (.Name "dict" p) [e] [] pos) (fCall gDictP fs) :=
  z_callTy c (call_dictP c.calm) cz_dictP ha (by decide +kernel) hb (by decide +kernel) (by decide +kernel) he rfl
end
end Z

/-! # sorted(xs, reverse=b), xs a list of ints -/
namespace Z
open PySem PySem.Spec PyProof.Rows L2
def sortR (b : Bool) (ns : List Int) : List Int := if b = true then (ns.mergeSort fun i j => decide (i ≤ j)).reverse else ns.mergeSort fun i j => decide (i ≤ j)
def gSortR (b : Bool) (xs : List Dv) (s : Sto) : Rs (List Dv) := match xs with
  | [x] => match (seqOf s x).bind intsOf with
    | some ns => Rs.iff (isL x s) (.ok ((sortR b ns).map .int) s)
    | none => .bad
  | _ => .bad
section
variable {G : Gz} {bs : List Str} {k : Nat} {X : Cx} {N : List Str} {nm : List (Str × NameKind)} {ow : Str → Bool} {e : Expr} {fs : Fn (List Dv)} {pos p : Pos} {b : Bool}
end
end Z

/-! # sorted(d.values(), reverse=b), sum(d.values()): the calls -/
namespace Z
open PySem PySem.Spec PyProof.Rows L2
section
variable {prog : Program} {w : World} {A : Around} {E : Value → Shared → Prop} {s : Shared} {T : String} {r d : Addr} {n : Nat} {P : Nat → Value → Prop} {OK : Heap → Prop}
end
end Z

/-! # sorted(d.values(), reverse=b) -/
namespace Z
open PySem PySem.Spec PyProof.Rows L2
def tSortVals (b : Bool) (td : TE) : TE := fun σ H Q => td σ H fun x H1 => ∃ a kvs is, x = V.ref a ∧ H1 a = some (.dK kvs) ∧ kvs.map (·.2) = is.map V.int ∧ is.length ≤ sizeLine ∧ ∀ p, H1 p = none → Q (.ref p) (upd H1 p (.lst ((sortR b is).map V.int)))
section
variable {X : Cx} {o : Expr} {p pos apos mpos kpos cp : Pos} {td : TE} {b : Bool} {j : Nat}
end
end Z

/-! # sorted(d.values(), reverse=b): the rule -/
namespace Z
open PySem PySem.Spec PyProof.Rows L2
def valsOf (s : Sto) : Dv → Option (List Int)
  | .loc n => match s[n]? with | some (.dk kvs) => intsOf (kvs.map (·.2)) | _ => none
  | _ => none
def fSortV (b : Bool) (fd : Fn Dv) : Fn (List Dv) := fun env s => (fd env s).bind fun x s1 => match valsOf s1 x with
  | some ns => Rs.iff (decide (ns.length ≤ 16777216)) (.ok ((sortR b ns).map .int) s1)
  | none => .bad
section
variable {G : Gz} {bs : List Str} {k : Nat} {X : Cx} {N : List Str} {nm : List (Str × NameKind)} {ow : Str → Bool} {o : Expr} {fd : Fn Dv} {p pos apos mpos kpos cp : Pos} {b : Bool} {j : Nat}
end
end Z

/-! # sum(d.values()) -/
namespace Z
open PySem PySem.Spec PyProof.Rows L2
def tSumVals (td : TE) : TE := fun σ H Q => td σ H fun x H1 => ∃ (a : Addr) (kvs : List (Key × V)) (is : List Int), x = V.ref a ∧ H1 a = some (.dK kvs) ∧ kvs.map (·.2) = is.map V.int ∧ Q (.int is.sum) H1
section
variable {X : Cx} {o : Expr} {p pos apos mpos : Pos} {td : TE}
def fSumV (fd : Fn Dv) : Fn Dv := fun env s => (fd env s).bind fun x s1 => match valsOf s1 x with
  | some ns => .ok (.int ns.sum) s1
  | none => .bad
variable {G : Gz} {bs : List Str} {k : Nat} {N : List Str} {nm : List (Str × NameKind)} {ow : Str → Bool} {fd : Fn Dv}
end
end Z

/-! # Errors of the program made: classes over an own class over ValueError or LookupError -/
namespace Z
open PySem PySem.Spec PyProof.Rows L2 PySem.W PySem.HandSPX

/-- what the written part says of an error's class at C: its builtin base B -/
structure OexB (K : PySem.W.Frag) (C : Addr) (B nw ini : String) (mr : List Value) : Prop where
  FB : ExcBaseFacts B nw ini mr
  SF : StoreFacts B mr "object.__setattr__" "object"
  cls : ∃ nm q N bs bm sn sub ab col dd k0 k1 k2 k3 k5, K.lookup C = some (excClassObj nm q C N bs bm true sn sub ab col dd k0 k1 k2 k3 k5 nw) ∧ excTail mr bm = true
  sa : findIn K (.ref C) "__setattr__" = some (some (.builtin "object.__setattr__"))
  exC : subIn K (.ref C) (.type "BaseException") = some true
  tyC : typeIn K (.ref C) = some (.type "type")
  kC : keepIn K (.ref C) = true
section
variable {K : PySem.W.Frag} {C : Addr} {B nw ini : String} {mr : List Value}
theorem OexB.cd (T : OexB K C B nw ini mr) : ∃ cd : ClassData, clsIn K C = some cd ∧ cd.hasDict = true ∧ excOver K C mr = true := by
  obtain ⟨nm, q, N, bs, bm, sn, sub, ab, col, dd, k0, k1, k2, k3, k5, hC, hbm⟩ := T.cls
  have hcl : clsIn K C = some { name := nm, bases := bs, mro := .ref C :: bm, ns := N, qualname := q, hasDict := true, slotNames := sn, subclasses := sub, abstract := ab, collection := col, hasDel := false } := by
    unfold clsIn; rw [hC]
  refine ⟨_, hcl, rfl, ?_⟩
  unfold excOver
  rw [hcl]
  show (C == C && excTail mr bm) = true
  rw [hbm]; simp
end
section
open Builtin Builtin.ObjectAttr
variable {prog : Program} {w : World} {A : Around} {E : Value → Shared → Prop} {R : Result → Shared → Prop} {hp : Heap} {g : Array GenState} {d : Drawn} {t : Nat} {os : OsState}
variable {K : PySem.W.Frag} {name : Str} {tk : Tok} {v : Value} {x C dx : Addr} {fv : Array Value} {B nw ini : String} {mr : List Value}
end
section
variable {X : Cx} {pins : List (Addr × Obj)} {σ : L2.St} {H : Hp} {s : Shared} {a C dx : Addr} {f : Str} {y : V} {u : Value} {fs : List (Str × V)} {E : Value → Shared → Prop} {A : Around} {B nw ini : String} {mr : List Value}
end
/-! ### readings -/
/-- Base.__init__(self, ..), Base an own class without __init__ -/
def tBi (K : PySem.W.Frag) (ini : String) (ta : TA) : TE := fun σ H Q => ta σ H fun vs H1 => ∃ (a C : Addr) (B nw : String) (mr : List Value) (ws : List V), vs = .ref a :: ws ∧ ws.length ≤ 1000 ∧ OexB K C B nw ini mr ∧ H1 a = some (exo a C none) ∧ Q .non H1
/-- self.f = e on an error that is being made -/
def tFs (K : PySem.W.Frag) (f : Str) (to te : TE) : TS := fun D σ H => te σ H fun y H1 => to σ H1 fun x H2 => ∃ (a C : Addr) (B nw ini : String) (mr : List Value), x = .ref a ∧ OexB K C B nw ini mr ∧ takerIn K C f = some none ∧
  ((H2 a = some (exo a C none) ∧ ∀ dx, H2 dx = none → dx ≠ a → D.nx σ (upd (upd H2 dx (exd dx [(f, y)])) a (exo a C (some dx)))) ∨
    ∃ (dx : Addr) (fs : List (Str × V)), H2 a = some (exo a C (some dx)) ∧ H2 dx = some (exd dx fs) ∧ fs.length ≤ 900 ∧ D.nx σ (upd H2 dx (exd dx ((f, y) :: fs))))
/-- an own class is read: what its __init__ is -/
structure BaseI (K : PySem.W.Frag) (mg : Str → Option Value) (b : Str) (ini : String) : Prop where
  ex : ∃ (D : Addr), mg b = some (.ref D) ∧ specialIn K (.ref D) "__getattribute__" = some (some (.builtin "type.__getattribute__")) ∧ readsIn K D (.type "type") = true ∧ findCls K (.ref D) (.type "type") "__init__" = some (.val (.builtin ini))
  hi : handedIn (.builtin ini) = true
section
variable {X : Cx} {o e : Expr} {es : List Expr} {to te : TE} {ta : TA} {f b : Str} {p p' p1 p2 pos : Pos} {ini : String}
end
end Z

/-! # Errors of the program: __init__ as a def, an error made and raised -/
namespace Z
open PySem PySem.Spec PyProof.Rows L2 PySem.W PySem.HandSPX

/-- __init__ of an error with the fields fs -/
def spI (C : Addr) (fs : List Str) : Sp := fun vs H Q _ => ∃ (a : Addr) (ws : List V), vs = .ref a :: ws ∧ ws.length = fs.length ∧ H a = some (exo a C none) ∧
  ∀ (dx : Addr) (H' : Hp), H dx = none → dx ≠ a → H' a = some (exo a C (some dx)) → H' dx = some (exd dx (fs.zip ws).reverse) → (∀ b, b ≠ a → b ≠ dx → H' b = H b) → Q .non H'
/-- an own class is called, its __init__ read off it -/
def InitForm (b : Str) (p1 p2 p3 p4 pos : Pos) (txt : Str) (j : Nat) : Prop := ∀ env : Env, ∃ pl : Sem Bool, eval (.Call (.Attribute (.Name b p1) "__init__" p2) [.Name "self" p3, .Constant (.str txt) j p4] [] pos) env = (do
      let ov ← eval (.Name b p1) env
      standAt p2.atName
      let (f, first) ← holding [ov] (getMethod ov "__init__" pl)
      callWith pos f first (backTo pos (starEach [.Name "self" p3, .Constant (.str txt) j p4] env)) (backToKw pos (keywordEach [] env)))
section
variable {P : Program} {w : World} {K : PySem.W.Frag} {mg : Str → Option Value} {base : Heap} {qual b f g : Str} {st : Stmt} {fI C : Addr} {fd : FuncData} {B nw ini : String} {mr : List Value}
/-- the scope of an __init__ -/
structure ScI (st : Stmt) (b : Str) (fs : List Str) : Prop where
  S : FnScope (("self" : Str) :: fs) (("self" : Str) :: fs) (defScope st)
  s0 : (defScope st).names.lookup ("self" : Str) = some .local
  s1 : ∀ f ∈ fs, (defScope st).names.lookup f = some .local
  sb : (defScope st).names.lookup b = some .globalImplicit
end
/-- C(e, ..) with the fields fs -/
def tMk (C : Addr) (fs : List Str) (ta : TA) : L2.St → Hp → XK → Prop := fun σ H Q => ta σ H fun vs H1 => vs.length = fs.length ∧ ∀ d, H1 d = none → Q (.ref C) (some d) (upd H1 d (.xd (fs.zip vs).reverse))
section
variable {X : Cx} {x : Str} {e : Expr} {es : List Expr} {ta : TA} {p pos : Pos} {C fI : Addr} {fd : FuncData} {fs : List Str} {B nw ini : String} {mr : List Value} {k : Nat}
end
end Z

/-! # Readings in which an error may come up -/
namespace Z
open PySem PySem.Spec PyProof.Rows L2

def clsN : Nat → Str
  | 0 => "NoPaper"
  | 1 => "NoEnd"
  | 2 => "NoPage"
  | 3 => "NoText"
  | 4 => "NoRow"
  | 5 => "NoName"
  | 6 => "NoPile"
  | 7 => "NoStep"
  | 8 => "NoPart"
  | _ => "NoBack"
def Out {α : Type} (r : Rs α) (P : α → Sto → Prop) (E : Dv → Sto → Prop) : Prop := match r with
  | .ok a s => P a s
  | .exc e s => E e s
  | .bad => False
theorem Out.bind {α β : Type} {r : Rs α} {f : α → Sto → Rs β} {P : β → Sto → Prop} {E : Dv → Sto → Prop} (h : Out (r.bind f) P E) : Out r (fun a s => Out (f a s) P E) E := by
  cases r <;> exact h
theorem Out.mono {α : Type} {r : Rs α} {P Q : α → Sto → Prop} {E F : Dv → Sto → Prop} (h : Out r P E) (hp : ∀ a s, P a s → Q a s) (he : ∀ e s, E e s → F e s) : Out r Q F := by
  cases r with
  | ok a s => exact hp _ _ h
  | exc e s => exact he _ _ h
  | bad => exact h
/-- what raises nothing -/
def Rs.sure {α : Type} (r : Rs α) : Rs α := match r with
  | .exc _ _ => .bad
  | r => r
theorem Out.sure {α : Type} {r : Rs α} {P : α → Sto → Prop} {E : Dv → Sto → Prop} (h : Out r.sure P E) : ∃ a s, r = .ok a s ∧ P a s := by
  cases r with
  | ok a s => exact ⟨a, s, rfl, h⟩
  | exc e s => exact False.elim h
  | bad => exact False.elim h
theorem Out.iff {α : Type} {c : Bool} {r : Rs α} {P : α → Sto → Prop} {E : Dv → Sto → Prop} (h : Out (Rs.iff c r) P E) : c = true ∧ Out r P E := by
  unfold Rs.iff at h
  split at h
  · exact ⟨by assumption, h⟩
  · exact False.elim h

/-- an error in the air, of class cls with its dict d -/
def XRp (K : PySem.W.Frag) (mg : Str → Option Value) (B : Lo) (H : Hp) (e : Dv) (cls : Value) (d : Option Addr) : Prop :=
  ∃ (c : Nat) (fs : List Dv) (C dd : Addr) (kvs : List (Str × V)) (vs : List V), e = .xn 0 0 c fs ∧ mg (clsN c) = some (.ref C) ∧ cls = .ref C ∧ d = some dd ∧ H dd = some (.xd kvs) ∧ dd ∉ B.locs ∧ dd ∉ B.hid ∧
    (fldN c).mapM (fun f => kvs.lookup f) = some vs ∧ Rps K B H fs vs
def XPost (K : PySem.W.Frag) (mg : Str → Option Value) (W : Value → Option Addr → Hp → Prop) (B : Lo) (H : Hp) (s' : Sto) (e : Dv) : Prop :=
  ∀ (B' : Lo) (H' : Hp) (cls : Value) (d : Option Addr), Ext B H B' H' → B'.hid = B.hid → Sim K B' H' s' → XRp K mg B' H' e cls d → W cls d H'
section
variable {K : PySem.W.Frag} {mg : Str → Option Value} {W : WX} {B B1 : Lo} {H H1 : Hp} {σ : L2.St} {s' : Sto} {e d : Dv} {Q : VK}
theorem XPost.ahead {W : Value → Option Addr → Hp → Prop} (h : XPost K mg W B H s' e) (x : Ext B H B1 H1) (ee : B1.hid = B.hid) : XPost K mg W B1 H1 s' e := fun B' H' cls d x' e' S r => h B' H' cls d (x.trans x') (e'.trans ee) S r
theorem PostZ.ahead (h : PostZ K B H s' d Q) (x : Ext B H B1 H1) (ee : B1.hid = B.hid) : PostZ K B1 H1 s' d Q := fun B' H' v x' e' S r => h B' H' v (x.trans x') (e'.trans ee) S r
end
/-- the wish at the slots σ -/
abbrev WAt (W : WX) (σ : L2.St) : Value → Option Addr → Hp → Prop := fun cls d H => W cls d σ H
def tX (K : PySem.W.Frag) (mg : Str → Option Value) (W : WX) (f : Fn Dv) : TE := fun σ H Q => ∃ B env s, RpE K B H env σ ∧ Sim K B H s ∧ Out (f env s) (fun d s' => PostZ K B H s' d Q) (fun e s' => XPost K mg (WAt W σ) B H s' e)
def tXA (K : PySem.W.Frag) (mg : Str → Option Value) (W : WX) (f : Fn (List Dv)) : TA := fun σ H Q => ∃ B env s, RpE K B H env σ ∧ Sim K B H s ∧
  Out (f env s) (fun ds s' => ∀ (B' : Lo) (H' : Hp) (vs : List V), Ext B H B' H' → B'.hid = B.hid → Sim K B' H' s' → Rps K B' H' ds vs → Q vs H') (fun e s' => XPost K mg (WAt W σ) B H s' e)
def tXS (K : PySem.W.Frag) (mg : Str → Option Value) (W : WX) (f : Fn Ct) : TS := fun D σ H => ∃ B env s, RpE K B H env σ ∧ Sim K B H s ∧ Out (f env s) (fun c s' => PostC K B H s' D c) (fun e s' => XPost K mg (WAt W σ) B H s' e)
abbrev ZX (X : Cx) (W : WX) (e : Expr) (f : Fn Dv) : Prop := PE X e (tX X.K X.mg W f)
abbrev ZXA (X : Cx) (W : WX) (es : List Expr) (f : Fn (List Dv)) : Prop := PA X es (tXA X.K X.mg W f)
abbrev ZXS (X : Cx) (W : WX) (st : Stmt) (f : Fn Ct) : Prop := PS X st (tXS X.K X.mg W f)
abbrev ZXB (X : Cx) (W : WX) (st : List Stmt) (f : Fn Ct) : Prop := PSs X st (tXS X.K X.mg W f)
def fSure {α : Type} (f : Fn α) : Fn α := fun env s => (f env s).sure
section
variable {G : Gz} {bs : List Str} {k : Nat} {X : Cx} {N : List Str} {nm : List (Str × NameKind)} {ow : Str → Bool} {W : WX} {a b c e o i v : Expr} {es : List Expr} {fa fb fc : Fn Dv} {fs : Fn (List Dv)} {pos p : Pos} {x : Str} {i j : Nat} {st : Stmt} {rest ss tt : List Stmt} {f g : Fn Ct} {tc : Fn Bool}
/-- an operator whose operands may raise -/
def sure3 (g : Dv → Dv → Sto → Rs Dv) : Dv → Dv → Sto → Rs Dv := fun x y s => (g x y s).sure
/-- a[i] of what may raise, a tuple or a list -/
def gIxS (x y : Dv) (s : Sto) : Rs Dv := match y with
  | .int i => match (seqOf s x).bind (atI · i) with | some d => .ok d s | none => .bad
  | _ => .bad
def rSeqX (K : PySem.W.Frag) : V → V → Hp → VK → Prop := fun v w H Q => (∃ p xs i u, v = .ref p ∧ w = .int i ∧ SqL K H p xs ∧ atI xs i = some u ∧ Q u H) ∨ ∃ p xs i u, v = .ref p ∧ w = .int i ∧ SqT K H p xs ∧ atI xs i = some u ∧ Q u H
/-! ### statements -/
end
end Z

/-! # Defs that may raise; raise; their calls -/
namespace Z
open PySem PySem.Spec PyProof.Rows L2

/-! ### raise -/
structure ErrC (G : Gz) (c : Nat) : Prop where
  ex : ∃ (C fI : Addr) (fd : FuncData) (B nw ini : String) (mr : List Value), G.mg (clsN c) = some (.ref C) ∧ OexB G.K C B nw ini mr ∧ PySem.W.findIn G.K (.ref C) "__init__" = some (some (.ref fI)) ∧
    PySem.W.typeIn G.K (.ref fI) = some (.type "function") ∧ Binds G.K fd ("self" :: fldN c) [] ∧ FnOk G.prog G.w G.K G.mg G.base CX0 1 fI fd ("self" :: fldN c) (spI C (fldN c))
def fRaise (cn : Nat) (fs : Fn (List Dv)) : Fn Ct := fun env s => (fs env s).bind fun ds s1 => Rs.iff (ds.length == (fldN cn).length) (.exc (.xn 0 0 cn ds) s1)
section
variable {G : Gz} {bs : List Str} {k : Nat} {X : Cx} {N : List Str} {nm : List (Str × NameKind)} {ow : Str → Bool} {W : WX} {e : Expr} {es : List Expr} {fs : Fn (List Dv)} {pos p pos2 : Pos} {cn : Nat} {x : Str} {n : Nat} {φ : Phi}
/-! ### calls -/
def spX (K : PySem.W.Frag) (mg : Str → Option Value) (n : Nat) (φ : Phi) : Sp := fun vs H Q E => vs.length = n ∧ ∃ B ds s, Rps K B H ds vs ∧ Sim K B H s ∧ Out (φ ds s) (fun d s' => PostZ K B H s' d Q) (fun e s' => XPost K mg E B H s' e)
/-- a def that may raise, at f -/
structure FnX (G : Gz) (k : Nat) (f : Addr) (fd : FuncData) (ps : List Str) (sp : Sp) : Prop where
  run : ∀ (A : Around) (outer : List Env) (s : Shared) (H : Hp) (args : Args) (us : List Value) (vs : List V) (Q : VK) (E : XK), A.guards = some [] → Room k A → Env0 G.prog G.w G.K G.mg G.base A outer s H → BindsTo s fd args (ps.zip us) → Vals vs us → sp vs H Q E →
    codeAny (model G.prog G.w) A (.call (.ref f) args) (CR (L2N.CX G.prog G.w) outer G.prog G.w H s Q E) s
structure FzX (G : Gz) (k : Nat) (x : Str) (n : Nat) (φ : Phi) : Prop where
  len : ∀ ds s, φ ds s ≠ .bad → ds.length = n
  ex : ∃ (f : Addr) (fd : FuncData) (ps : List Str), G.mg x = some (.ref f) ∧ PySem.W.keepIn G.K (.ref f) = true ∧ Binds G.K fd ps [] ∧ ps.length = n ∧ FnX G k f fd ps (spX G.K G.mg n φ)
theorem FzX.mono {j : Nat} (F : FzX G j x n φ) (h : j ≤ k) : FzX G k x n φ := by
  obtain ⟨f, fd, ps, h1, h2, h3, h4, h5⟩ := F.ex
  exact ⟨F.len, f, fd, ps, h1, h2, h3, h4, ⟨fun A outer s H args us vs Q E hg hr => h5.run A outer s H args us vs Q E hg (hr.mono h)⟩⟩
theorem Out.nb {α : Type} {r : Rs α} {P : α → Sto → Prop} {E : Dv → Sto → Prop} (h : Out r P E) : r ≠ .bad := fun z => by rw [z] at h; exact h
/-- a def that raises nothing, arguments that may raise -/
def sureP (φ : Phi) : Phi := fun ds s => (φ ds s).sure
end

/-! ### what an error leaves of a def's store -/
def gcX {α : Type} (b : Nat) (e : Dv) (s : Sto) : Rs α := if (below b e && keepsZ b s) = true then .exc e (s.take b) else .bad
def fDefX (n m : Nat) (body : Fn Ct) (ds : List Dv) (s : Sto) : Rs Dv :=
  Rs.iff (ds.length == n) (match body (ds.map some ++ List.replicate (m - n) none) s with
    | .ok (.next _) s1 => gcZ s.length .non s1
    | .ok (.ret d) s1 => gcZ s.length d s1
    | .exc e s1 => gcX s.length e s1
    | _ => .bad)
end Z

/-! # The errors' classes: who is whose; isinstance, fields -/
namespace Z
open PySem PySem.Spec PyProof.Rows L2 PySem.W

theorem nbeq (i j : Nat) : (j == i) = (i == j) := by
  by_cases h : i = j
  · rw [h]
  · rw [beq_eq_false_iff_ne.mpr h, beq_eq_false_iff_ne.mpr (Ne.symm h)]
/-- the names of the classes: the ten, their two bases -/
def tN : Nat → Str
  | 10 => "CountError"
  | 11 => "LostError"
  | i => clsN i
def veT : List Value := [.type "ValueError", .type "Exception", .type "BaseException", .type "object"]
def leT : List Value := [.type "LookupError", .type "Exception", .type "BaseException", .type "object"]
def mrT (A : Nat → Addr) (i : Nat) : List Value := if i ≤ 4 then .ref (A 10) :: veT else if i ≤ 9 then .ref (A 11) :: leT else if i = 10 then veT else leT
/-- a class that the text has -/
def Has (pr : Nat → Bool) (i : Nat) : Prop := i < 12 ∧ pr i = true
/-- what the top has written of the classes -/
structure ErrsT (K : PySem.W.Frag) (mg : Str → Option Value) (A : Nat → Addr) (pr : Nat → Bool) : Prop where
  p10 : pr 10 = true
  p11 : pr 11 = true
  mg : ∀ i, Has pr i → mg (tN i) = some (.ref (A i))
  lk : ∀ i, Has pr i → ∃ q N bs sn sub ab col dd k0 k1 k2 k3 k5 nw, K.lookup (A i) = some (excClassObj (tN i) q (A i) N bs (mrT A i) true sn sub ab col dd k0 k1 k2 k3 k5 nw)
  ty : ∀ i, Has pr i → typeIn K (.ref (A i)) = some (.type "type")
  ga : ∀ i, i < 9 → pr i = true → findIn K (.ref (A i)) "__getattribute__" = some (some (.builtin "BaseException.__getattribute__"))
  gg : ∀ i, i < 9 → pr i = true → findIn K (.ref (A i)) "__getattr__" = some none
  cl : ∀ i, i < 9 → pr i = true → findIn K (.ref (A i)) "__class__" = some (some (.builtin "object.__class__"))
  fn : ∀ i, i < 9 → pr i = true → ∀ f ∈ fldN i, findIn K (.ref (A i)) f = some none
  sg : specialIn K (.builtin "object.__class__") "__get__" = some (some (.builtin "getset_descriptor.__get__"))
  tk : takesIn K (.builtin "object.__class__") = some true
section
variable {K : PySem.W.Frag} {mg : Str → Option Value} {A : Nat → Addr} {pr : Nat → Bool} (T : ErrsT K mg A pr)
theorem tN_inj : ∀ i, i < 12 → ∀ j, j < 12 → tN i = tN j → i = j := by decide +kernel
include T
theorem ErrsT.inj {i j : Nat} (hi : Has pr i) (hj : Has pr j) (h : A i = A j) : i = j := by
  obtain ⟨q, N, bs, sn, sub, ab, col, dd, k0, k1, k2, k3, k5, nw, e⟩ := T.lk i hi
  obtain ⟨q', N', bs', sn', sub', ab', col', dd', k0', k1', k2', k3', k5', nw', e'⟩ := T.lk j hj
  rw [h, e'] at e
  have e := Option.some.inj e
  unfold excClassObj at e
  injection e with _ _ e _
  injection e with e
  injection e with e
  exact (tN_inj j hj.1 i hi.1 e).symm
theorem ErrsT.cls {i : Nat} (hi : Has pr i) : ∃ cd : ClassData, clsIn K (A i) = some cd ∧ cd.mro = .ref (A i) :: mrT A i ∧ cd.hasDict = true := by
  obtain ⟨q, N, bs, sn, sub, ab, col, dd, k0, k1, k2, k3, k5, nw, e⟩ := T.lk i hi
  refine ⟨{ name := tN i, bases := bs, mro := .ref (A i) :: mrT A i, ns := N, qualname := q, hasDict := true, slotNames := sn, subclasses := sub, abstract := ab, collection := col, hasDel := false }, ?_, rfl, rfl⟩
  unfold clsIn; rw [e]
theorem ErrsT.sub {i : Nat} (hi : Has pr i) (v : Value) : subIn K (.ref (A i)) v = some ((Value.ref (A i) :: mrT A i).contains v) := by
  obtain ⟨cd, h1, h2, _⟩ := T.cls hi
  show mroIn K (A i) v = _
  unfold mroIn
  rw [h1, Option.bind_some, h2]
  rfl
def bsN (i : Nat) : Nat := if i ≤ 4 then 10 else 11
/-- an own class is the class j or beneath it -/
def subO (i j : Nat) : Bool := i == j || (decide (i < 10) && j == bsN i)
theorem ErrsT.subO {i j : Nat} (hi : Has pr i) (hj : Has pr j) : subIn K (.ref (A i)) (.ref (A j)) = some (Z.subO i j) := by
  rw [T.sub hi]
  have inj : ∀ a b : Nat, Has pr a → Has pr b → (Value.ref (A a) == Value.ref (A b)) = (a == b) := fun a b ha hb => by
    by_cases h : a = b
    · subst h; simp
    · rw [show (a == b) = false by simpa using h]
      refine Bool.eq_false_iff.mpr fun z => h (T.inj ha hb (Value.ref.inj (beq_iff_eq.mp z)))
  have nt : ∀ (s : String) (a : Nat), (Value.ref (A a) == Value.type s) = false := fun s a => Bool.eq_false_iff.mpr fun z => by cases beq_iff_eq.mp z
  have e1 := inj j i hj hi
  unfold Z.subO mrT bsN
  by_cases h4 : i ≤ 4
  · have e2 := inj j 10 hj ⟨by decide, T.p10⟩
    rw [if_pos h4, if_pos h4]
    simp only [List.contains_cons, veT, e1, e2, nt, List.contains_nil, Bool.or_false, show decide (i < 10) = true from decide_eq_true (by omega), Bool.true_and]
    rw [nbeq i j]
  · rw [if_neg h4, if_neg h4]
    by_cases h9 : i ≤ 9
    · have e2 := inj j 11 hj ⟨by decide, T.p11⟩
      rw [if_pos h9]
      simp only [List.contains_cons, leT, e1, e2, nt, List.contains_nil, Bool.or_false, show decide (i < 10) = true from decide_eq_true (by omega), Bool.true_and]
      rw [nbeq i j]
    · rw [if_neg h9]
      simp only [show decide (i < 10) = false from decide_eq_false (by omega), Bool.false_and, Bool.or_false]
      split <;> simp only [List.contains_cons, veT, leT, e1, nt, List.contains_nil, Bool.or_false] <;> rw [nbeq i j]
/-- .. is beneath ValueError, LookupError -/
theorem ErrsT.kitB {i : Nat} (hi : i < 9) (hp : pr i = true) (b : Bool) : kitOne K (.ref (A i)) (.type (if b then "LookupError" else "ValueError")) = some (b == decide (4 < i)) := by
  have h1 : kitCls K (.ref (A i)) (.type (if b then "LookupError" else "ValueError")) = some (b == decide (4 < i)) := by
    have hm : kitMeta (if b then "LookupError" else "ValueError") = true := by cases b <;> decide +kernel
    show (if kitMeta _ = true then subIn K (.ref (A i)) (.type _) else none) = _
    rw [if_pos hm, T.sub ⟨by omega, hp⟩]
    unfold mrT
    have nt : ∀ (s : String) (a : Nat), (Value.type s == Value.ref (A a)) = false := fun s a => Bool.eq_false_iff.mpr fun z => by cases beq_iff_eq.mp z
    by_cases h4 : i ≤ 4
    · rw [if_pos h4, decide_eq_false (by omega)]
      simp only [List.contains_cons, veT, nt]
      cases b <;> decide +kernel
    · rw [if_neg h4, if_pos (by omega), decide_eq_true (by omega)]
      simp only [List.contains_cons, leT, nt]
      cases b <;> decide +kernel
  unfold kitOne
  rw [if_neg (by simp), h1]
theorem ErrsT.exc {i : Nat} (hi : i < 9) (hp : pr i = true) : ExcC K (A i) ∧ XfC K (A i) := by
  have hs : subIn K (.ref (A i)) (.type "BaseException") = some true := by
    rw [T.sub ⟨by omega, hp⟩]
    unfold mrT
    by_cases h4 : i ≤ 4
    · rw [if_pos h4]; simp [veT]
    · rw [if_neg h4, if_pos (by omega)]; simp [leT]
  have ho : mroIn K (A i) (.type "object") = some true := by
    have := T.sub (i := i) ⟨by omega, hp⟩ (.type "object")
    rw [show mroIn K (A i) (.type "object") = subIn K (.ref (A i)) (.type "object") from rfl, this]
    unfold mrT
    by_cases h4 : i ≤ 4
    · rw [if_pos h4]; simp [veT]
    · rw [if_neg h4, if_pos (by omega)]; simp [leT]
  have hd : hasDictIn K (A i) = true := by
    obtain ⟨cd, h1, h2, h3⟩ := T.cls (i := i) ⟨by omega, hp⟩
    unfold hasDictIn
    rw [h1]
    exact h3
  exact ⟨⟨T.ga i hi hp, T.gg i hi hp, hs, hd, T.cl i hi hp, T.sg, T.tk, ho⟩, ⟨T.ga i hi hp, T.gg i hi hp, hs, hd⟩⟩
end
end Z

/-! # Where an error is handled: isinstance, its fields -/
namespace Z
open PySem PySem.Spec PyProof.Rows L2 PySem.W
variable {pr : Nat → Bool}

section
variable {prog : Program} {w : World} {A : Around} {E : Value → Shared → Prop} {s : Shared} {K : PySem.W.Frag} {x D : Addr} {ox : Obj} {od : Option Obj}
end

/-- where the error at a (its dict at dd, its class number c) is handled -/
structure Ch (pr : Nat → Bool) (G : Gz) (bs : List Str) (k : Nat) (X : Cx) (N : List Str) (nm : List (Str × NameKind)) (a dd : Addr) (c : Nat) : Prop where
  hN : X.N = N
  nd : N.Nodup
  kd : X.env.scope.kind = .function
  nm : X.env.scope.names = nm
  ow : X.fn = fun _ => true
  rm : L2H.RoomH k X.A
  gd : X.A.guards = some []
  bl : ∀ x ∈ bs, X.mg x = none
  gp : X.prog = G.prog
  gw : X.w = G.w
  gK : X.K = G.K
  gm : X.mg = G.mg
  gb : X.base = G.base
  c9 : c < 9
  cp : pr c = true
  hot : ∃ (A : Nat → Addr) (oe : Obj), ErrsT G.K G.mg A pr ∧ (a, oe) ∈ X.pn ∧ L2H.Hot1 X.A (a, oe) ∧ oe.cls = .ref (A c) ∧ oe.dict = some dd
section
variable {G : Gz} {bs : List Str} {k : Nat} {X : Cx} {N : List Str} {nm : List (Str × NameKind)} {a dd : Addr} {cn : Nat} {x : Str} {i : Nat} {pos p p2 pos' : Pos} {e : Expr} {es : List Expr} {fa : Fn Dv} {fs : Fn (List Dv)}
theorem Ch.gl (c : Ch pr G bs k X N nm a dd cn) (h : gOk nm x = true) : Gl X x := by
  unfold gOk at h
  show X.env.scope.names.lookup x = _
  rw [c.nm]
  split at h
  · assumption
  · cases h
theorem Ch.blt (c : Ch pr G bs k X N nm a dd cn) (h : bOk bs nm x = true) : Gl X x ∧ X.mg x = none := by
  unfold bOk at h
  rw [Bool.and_eq_true] at h
  exact ⟨c.gl h.1, c.bl x (List.contains_iff_mem.mp h.2)⟩
/-! ### isinstance -/
/-- the error itself -/
def gErr (a dd : Addr) (c : Nat) (d : Dv) : Option (List Dv) := match d with
  | .xn a' d' c' fs => if a' = a ∧ d' = dd ∧ c' = c then some fs else none
  | _ => none
/-- the names that isinstance is asked about: an own class by its number, ValueError, LookupError -/
inductive Tn where
  | own (j : Nat) | base (b : Bool)
def Tn.name : Tn → Str
  | .own j => tN j
  | .base b => Str.ofString (if b then "LookupError" else "ValueError")
def Tn.is (c : Nat) : Tn → Bool
  | .own j => subO c j
  | .base b => b == decide (4 < c)
def Tn.ok (pr : Nat → Bool) : Tn → Bool
  | .own j => decide (j < 12) && pr j
  | .base _ => true
/-- what the name stands for -/
def Tn.val (A : Nat → Addr) : Tn → V
  | .own j => .ref (A j)
  | .base b => .ty (if b then "LookupError" else "ValueError")
def Tn.value (A : Nat → Addr) : Tn → Value
  | .own j => .ref (A j)
  | .base b => .type (if b then "LookupError" else "ValueError")
/-- the name as a value -/
def tOk (bs : List Str) (nm : List (Str × NameKind)) : Tn → Bool
  | .own j => gOk nm (tN j)
  | .base b => bOk bs nm (Str.ofString (if b then "LookupError" else "ValueError"))
/-- the reading of isinstance(e, T): asked of the error that is handled -/
def fIsx (a dd : Addr) (cn : Nat) (t : Tn) (f : Fn Dv) : Fn Dv := fun env s => (f env s).bind fun d s1 => match gErr a dd cn d with
  | some _ => .ok (.bl (t.is cn)) s1
  | none => .bad
def rIsx (X : Cx) (a dd : Addr) (C : Addr) : List V → Hp → VK → Prop := fun xs H Q => ∃ (v : V) (cv : Value) (b : Bool) (kvs : List (Str × V)), xs = [.ref a, v] ∧ H dd = some (.xd kvs) ∧ (∀ u, RelV v u → u = cv) ∧ kitOne X.K (.ref C) cv = some b ∧ Q (.bl b) H
/-! isinstance(e, (T1, T2, ..)) -/
def fIsxT (a dd : Addr) (cn : Nat) (ts : List Tn) (f : Fn Dv) : Fn Dv := fun env s => (f env s).bind fun d s1 => match gErr a dd cn d with
  | some _ => .ok (.bl (ts.any fun t => t.is cn)) s1
  | none => .bad
def rIsxT (X : Cx) (a dd : Addr) (C : Addr) : List V → Hp → VK → Prop := fun xs H Q => ∃ (tp : Addr) (o : Obj) (ws : List V) (cvs : List Value) (b : Bool) (kvs : List (Str × V)), xs = [.ref a, .ref tp] ∧ H dd = some (.xd kvs) ∧ H tp = some (.frz o (.tup ws)) ∧
  (∀ us, Vals ws us → us = cvs) ∧ kitAny X.K (.ref C) cvs = some b ∧ Q (.bl b) H
def tnE (l : List (Tn × Pos)) : List Expr := l.map fun (q : Tn × Pos) => .Name q.1.name q.2
def tTns (A : Nat → Addr) (ts : List Tn) : TA := fun σ H Q => Q (ts.map fun t => t.val A) H
/-! ### e.f -/
def fFld (a dd : Addr) (cn j : Nat) (f : Fn Dv) : Fn Dv := fun env s => (f env s).bind fun d s1 => match gErr a dd cn d with
  | some fs => match fs[j]? with | some x => .ok x s1 | none => .bad
  | none => .bad
end
end Z

/-! # Where an error is handled: its fields, defs called there -/
namespace Z
open PySem PySem.Spec PyProof.Rows L2 PySem.W
variable {pr : Nat → Bool}
section
variable {G : Gz} {bs : List Str} {k : Nat} {X : Cx} {N : List Str} {nm : List (Str × NameKind)} {a dd : Addr} {cn : Nat} {x : Str} {i n : Nat} {pos p p2 pos' : Pos} {e e2 : Expr} {es : List Expr} {fa fb : Fn Dv} {fs : Fn (List Dv)}
/-- the reading of e.f -/
def fFldX (a dd : Addr) (cn : Nat) (f : Str) (g : Fn Dv) : Fn Dv := fun env s => (g env s).bind fun d s1 => match gErr a dd cn d with
  | some fs => match (fldN cn).findIdx? (· == f) with
    | some j => match fs[j]? with | some x => .ok x s1 | none => .bad
    | none => .bad
  | none => .bad
/-- == of flat things -/
def gEqF (x y : Dv) (s : Sto) : Rs Dv := match x, y with
  | .int i, .int j => .ok (.bl (i == j)) s
  | .str i, .str j => .ok (.bl (i == j)) s
  | .bl i, .bl j => .ok (.bl (i == j)) s
  | _, _ => .bad
/-! ### defs called there -/
abbrev PhiH := Addr → Addr → Nat → Phi
def spH (pr : Nat → Bool) (G : Gz) (n : Nat) (φ : PhiH) (vs : List V) (H : Hp) (Q : VK) (p : Addr × Obj) : Prop := vs.length = n ∧ ∃ (A : Nat → Addr) (c : Nat) (dd : Addr), ErrsT G.K G.mg A pr ∧ c < 9 ∧ pr c = true ∧ p.2.cls = .ref (A c) ∧ p.2.dict = some dd ∧
  ∃ B ds s d s', Rps G.K B H ds vs ∧ Sim G.K B H s ∧ φ p.1 dd c ds s = .ok d s' ∧ PostZ G.K B H s' d Q
structure FnHZ (G : Gz) (k : Nat) (f : Addr) (fd : FuncData) (ps : List Str) (sp : List V → Hp → VK → Addr × Obj → Prop) : Prop where
  run : ∀ (A : Around) (outer : List Env) (s : Shared) (H : Hp) (args : Args) (us : List Value) (vs : List V) (Q : VK) (p : Addr × Obj), A.guards = some [] → L2H.RoomH k A → L2H.Hot1 A p → L2H.PinOk outer H s p → Env0 G.prog G.w G.K G.mg G.base A outer s H → BindsTo s fd args (ps.zip us) → Vals vs us → sp vs H Q p →
    codeAny (model G.prog G.w) A (.call (.ref f) args) (CR CX0 outer G.prog G.w H s Q E0) s
structure FzH (pr : Nat → Bool) (G : Gz) (k : Nat) (x : Str) (n : Nat) (φ : PhiH) : Prop where
  len : ∀ a dd c ds s d s', φ a dd c ds s = .ok d s' → ds.length = n
  ex : ∃ (f : Addr) (fd : FuncData) (ps : List Str), G.mg x = some (.ref f) ∧ keepIn G.K (.ref f) = true ∧ Binds G.K fd ps [] ∧ ps.length = n ∧ FnHZ G k f fd ps (spH pr G n φ)
theorem FzH.mono {φ : PhiH} {j : Nat} (F : FzH pr G j x n φ) (h : j ≤ k) : FzH pr G k x n φ := by
  obtain ⟨f, fd, ps, h1, h2, h3, h4, h5⟩ := F.ex
  exact ⟨F.len, f, fd, ps, h1, h2, h3, h4, ⟨fun A outer s H args us vs Q p hg hr => h5.run A outer s H args us vs Q p hg (hr.mono h)⟩⟩
end
end Z

/-! # try: .. except .. as e: .. -/
namespace Z
open PySem PySem.Spec PyProof.Rows L2 PySem.W
variable {pr : Nat → Bool}

abbrev endsN (D : Ends) (i : Nat) : Ends := { nx := fun σ' H' => D.nx (σ'.set i none) H', rt := D.rt, bk := fun σ' H' => D.bk (σ'.set i none) H', ct := fun σ' H' => D.ct (σ'.set i none) H' }
/-- what 'except (C1, C2) as n' wishes of an error of the body -/
def wAs2 (K : PySem.W.Frag) (c1 c2 : Value) (i : Nat) (ts : Addr → Value → Option Addr → TS) (D : Ends) : WX := fun cls d σ H =>
  exmAny K cls [c1, c2] = some true ∧ ∀ a, H a = none → ts a cls d (endsN D i) (σ.set i (some (.ref a))) H
section
variable {X : Cx} {x1 x2 n : Str} {c1 c2 : Value} {i kk : Nat} {body suite : List Stmt} {b0 : Stmt} {p1 p2 tp pos pos' : Pos} {tb : WX → TS} {ts : Addr → Value → Option Addr → TS}
end

/-! ### by data -/
open Classical in
/-- the same, whatever the addresses -/
noncomputable def allX {α : Type} (F : Addr → Addr → Rs α) : Rs α := if h : ∃ r, ∀ a dd, F a dd = r then h.choose else .bad
def unC (i : Nat) : Ct → Ct
  | .next e => .next (e.set i none)
  | .ret d => .ret d
  | .brk e => .brk (e.set i none)
  | .cont e => .cont (e.set i none)
def unR (i : Nat) (r : Rs Ct) : Rs Ct := r.bind fun c s => .ok (unC i c) s
noncomputable def fTry (ct : Nat → Bool) (fb : Fn Ct) (i : Nat) (gs : Addr → Addr → Nat → Fn Ct) : Fn Ct := fun env s => match fb env s with
  | .ok c s1 => .ok c s1
  | .exc (.xn _ _ c fs) s1 => Rs.iff (decide (c < 9) && ct c) (allX fun a dd => unR i (gs a dd c (env.set i (some (.xn a dd c fs))) s1))
  | _ => .bad
section
variable {G : Gz} {bs : List Str} {k : Nat} {X : Cx} {N : List Str} {nm : List (Str × NameKind)} {n : Str} {i kk : Nat} {body suite : List Stmt} {b0 : Stmt} {p1 p2 tp pos pos' np : Pos} {fb : Fn Ct} {gs : Addr → Addr → Nat → Fn Ct} {x : Str}
/-- the suite's reading, from the error's class and dict -/
def tSu (pr : Nat → Bool) (G : Gz) (K : PySem.W.Frag) (A : Nat → Addr) (gs : Addr → Addr → Nat → Fn Ct) : Addr → Value → Option Addr → TS := fun a cls d D σ H => ∃ (c : Nat) (dd : Addr), c < 9 ∧ pr c = true ∧ cls = .ref (A c) ∧ d = some dd ∧ tOfS K (gs a dd c) D σ H
theorem PostC.un {K : PySem.W.Frag} {B : Lo} {H : Hp} {s' : Sto} {D : Ends} {i : Nat} : ∀ {c : Ct}, PostC K B H s' D (unC i c) → PostC K B H s' (endsN D i) c
  | .next e, h => fun B' H' σ' x ee S r => h B' H' _ x ee S (r.unset i)
  | .ret d, h => h
  | .brk e, h => fun B' H' σ' x ee S r => h B' H' _ x ee S (r.unset i)
  | .cont e, h => fun B' H' σ' x ee S r => h B' H' _ x ee S (r.unset i)
end
/-- a slice of what may raise: a tuple -/
def gSlS (x : Dv) (lo hi : Option Int) (s : Sto) : Rs Dv := match x with
  | .tup ds => .ok (.tup (cutD ds lo hi)) s
  | _ => .bad
section
variable {X : Cx} {W : WX} {e : Expr} {fa : Fn Dv} {pos p2 : Pos}
end
end Z

/-! # sum(xs, start=n); isinstance(x, (T1, T2)); range(a, b, -1); defs that call themselves -/
namespace Z
open PySem PySem.Spec PyProof.Rows L2

/-! ### sum(xs, start=n) -/
section
variable {prog : Program} {w : World} {A : Around} {E : Value → Shared → Prop} {s : Shared}
end
def gSumS (i : Dv) (x : Dv) (s : Sto) : Rs Dv := match i, (seqOf s x).bind intsOf with
  | .int i, some ns => Rs.iff (isL x s) (.ok (.int (i + ns.sum)) s)
  | _, _ => .bad
def fSumS (f g : Fn Dv) : Fn Dv := fun env s => (f env s).bind fun x s1 => (g env s1).bind fun i s2 => gSumS i x s2
section
variable {G : Gz} {bs : List Str} {k : Nat} {X : Cx} {N : List Str} {nm : List (Str × NameKind)} {ow : Str → Bool} {e e2 tg : Expr} {fa fb : Fn Dv} {fs : Fn (List Dv)} {pos p p2 kpos : Pos} {q : Bool}
/-! ### isinstance(x, (T1, T2)) -/
def isiAny (t : String) (Ts : List String) : Bool := Ts.any fun T => isiB t T
def fIsiT (Ts : List String) (f : Fn Dv) : Fn Dv := fun env s => (f env s).bind fun x s1 => Rs.iff (okX x) (.ok (.bl (isiAny (tyD x s1) Ts)) s1)
theorem kitAny_ty {K : PySem.W.Frag} {t : String} (ht : t ∈ ["NoneType", "bool", "int", "str", "tuple", "list", "dict"]) : ∀ Ts : List String, (∀ T ∈ Ts, T ∈ ["bool", "int", "str", "tuple", "list", "dict"]) → PySem.W.kitAny K (.type t) (Ts.map Value.type) = some (isiAny t Ts)
  | [], _ => rfl
  | T :: r, h => by
    have e : PySem.W.kitOne K (.type t) (.type T) = some (isiB t T) := kit_ty (kit_tab _ ht _ (h T List.mem_cons_self))
    show (match PySem.W.kitOne K (.type t) (.type T) with | some true => some true | some false => PySem.W.kitAny K (.type t) (r.map Value.type) | none => none) = _
    rw [e]
    unfold isiAny
    rw [List.any_cons]
    cases isiB t T with
    | true => rfl
    | false => exact kitAny_ty ht r fun T hT => h T (List.mem_cons_of_mem _ hT)
theorem clsV_tys : ∀ Ts : List String, Paired ClsV (Ts.map V.ty) (Ts.map Value.type)
  | [] => .nil
  | T :: r => .cons (.ty T) (clsV_tys r)
theorem z_isiT {kk : Nat} {tpos p3 p4 : Pos} (c : Cz G bs k X N nm ow) (T1 T2 : String) {x1 x2 : Str} (he : ZE X e fa) (hb : bOk bs nm "isinstance" = true := by decide +kernel)
    (hT1 : T1 ∈ ["bool", "int", "str", "tuple", "list", "dict"] := by decide) (hT2 : T2 ∈ ["bool", "int", "str", "tuple", "list", "dict"] := by decide) (hx1 : bOk bs nm x1 = true := by decide +kernel) (hx2 : bOk bs nm x2 = true := by decide +kernel)
    (hv1 : bootBuiltins x1 = some (.type T1) := by decide +kernel) (hv2 : bootBuiltins x2 = some (.type T2) := by decide +kernel) (hn1 : x1 ≠ "__name__" := by decide +kernel) (hn2 : x2 ≠ "__name__" := by decide +kernel) (hd1 : (x1 == ("__debug__" : Str)) = false := by decide +kernel) (hd2 : (x2 == ("__debug__" : Str)) = false := by decide +kernel)
    (g1 : starEach [.Name x1 p3, .Name x2 p4] X.env = (false, eval (.Name x1 p3) X.env) :: starEach [.Name x2 p4] X.env := by rfl) (g2 : starEach [.Name x2 p4] X.env = (false, eval (.Name x2 p4) X.env) :: starEach [] X.env := by rfl)
    (h1 : starEach [e, .Tuple [.Name x1 p3, .Name x2 p4] kk tpos] X.env = (false, eval e X.env) :: starEach [.Tuple [.Name x1 p3, .Name x2 p4] kk tpos] X.env := by rfl) (h2 : starEach [.Tuple [.Name x1 p3, .Name x2 p4] kk tpos] X.env = (false, eval (.Tuple [.Name x1 p3, .Name x2 p4] kk tpos) X.env) :: starEach [] X.env := by rfl)
    (hpl : (backTo pos (starEach [.Tuple [.Name x1 p3, .Name x2 p4] kk tpos] X.env)).any (·.1) = false := by rfl) :
    ZE X (.Call (.Name "isinstance" p) [e, .Tuple [.Name x1 p3, .Name x2 p4] kk tpos] [] pos) (fIsiT [T1, T2] fa) := by
  have t1 : PE X (.Name x1 p3) (tC (.ty T1)) := pe_bltn (c.blt hx1).1 (c.blt hx1).2 hv1 rfl hn1 hd1
  have t2 : PE X (.Name x2 p4) (tC (.ty T2)) := pe_bltn (c.blt hx2).1 (c.blt hx2).2 hv2 rfl hn2 hd2
  refine pe_mono (pe_callB call_isiT (c.blt hb).1 (c.blt hb).2 (by decide +kernel) (pa_cons he (pa_cons (pe_tup (pa_cons t1 (pa_cons t2 pa_nil g2) g1)) pa_nil h2) h1) (by decide +kernel) (by decide +kernel) h1 hpl) fun σ H Q h => ?_
  obtain ⟨B, env, s, d, s', hE, hS, hf, hQ⟩ := h
  obtain ⟨y, s1, g3, hf⟩ := Rs.bind_ok hf
  obtain ⟨hox, hf⟩ := Rs.iff_ok hf
  cases hf
  refine ⟨B, env, s, _, _, hE, hS, g3, fun B1 H1 v x1 e1 S1 r1 => ?_⟩
  refine ⟨by show 2 ≤ sizeLine; decide, fun tp htp => ?_⟩
  have xl : Ext B1 H1 B1 (upd H1 tp (.tup [.ty T1, .ty T2])) := Ext.laid htp
  have S2 : Sim X.K B1 (upd H1 tp (.tup [.ty T1, .ty T2])) s' := S1.laid htp
  obtain ⟨q1, q2⟩ := ty_of S2 (r1.mono xl.mo) hox
  exact ⟨v, tp, _, _, _, _, rfl, upd_same, clsV_tys [T1, T2], q1, kitAny_ty q2 [T1, T2] (fun T hT => by
    rcases List.mem_cons.mp hT with z | z
    · rw [z]; exact hT1
    · rw [List.mem_singleton.mp z]; exact hT2), hQ B1 _ _ (x1.trans xl) e1 S2 (.bl _)⟩

/-! ### range(a, b, -1) -/
def rngDn (lo : Int) (n : Nat) : List Dv := (List.range n).map fun (i : Nat) => Dv.int (lo - (i : Int))
def fRngD (f : Fn (List Dv)) : Fn Src := fun env s => (f env s).bind fun ds s1 => match ds with | [.int i, .int j, .int c] => Rs.iff (inRng i && inRng j && c == -1) (.ok (rngDn i (i - j).toNat, noChk) s1) | _ => .bad
end

/-! ### a def that calls itself -/
def recZ (n m : Nat) (body : Phi → Fn Ct) : Nat → Phi
  | 0 => fun _ _ => .bad
  | j + 1 => fDef n m (body (recZ n m body j))
theorem fz_rec {G : Gz} {bs : List Str} {k0 n : Nat} {x qual : Str} {st : Stmt} {f : Addr} {fd : FuncData} {N ps : List Str} {nm : List (Str × NameKind)} {body : Phi → Fn Ct} (F : Fun G.K x qual st f fd) (hm : G.mg x = some (.ref f)) (hb : Binds G.K fd ps []) (hn : ps.length = n) (S : FnScope N ps (defScope st)) (hnm : (defScope st).names = nm)
    (hbl : ∀ y ∈ bs, G.mg y = none) (hbody : ∀ (κ : Nat) (ψ : Phi), k0 ≤ κ → Fz G κ x n ψ → ∀ X : Cx, Cz G bs κ X N nm (fun _ => true) → ZB X (defBody st) (body ψ)) : ∀ j : Nat, Fz G (k0 + j) x n (recZ n N.length body j)
  | 0 => ⟨(fun ds s d s' (h : Rs.bad = Rs.ok d s') => nomatch h), f, fd, ps, hm, F.kp, hb, hn, ⟨fun A outer s H args us vs Q hg hr e0 hbd r hsp => by
      obtain ⟨_, _, _, _, _, _, _, _, h, _⟩ := hsp
      exact nomatch (show Rs.bad = Rs.ok _ _ from h)⟩⟩
  | j + 1 => fz_mk F hm hb hn S hnm hbl fun X c => hbody (k0 + j) _ (Nat.le_add_right _ _) (fz_rec F hm hb hn S hnm hbl hbody j) X c
/-- .. that may raise -/
def recX (n m : Nat) (body : Phi → Fn Ct) : Nat → Phi
  | 0 => fun _ _ => .bad
  | j + 1 => fDefX n m (body (recX n m body j))
end Z

namespace Z
open PySem PySem.Spec PyProof.Rows L2

/-! ### a, b, .. = a list -/
def gTpL (n : Nat) (h : List Dv → Fn En) : Dv → Fn En := fun d env s => match seqOf s d with
  | some ds => Rs.iff (isL d s && ds.length == n) (h ds env s)
  | none => .bad
section
variable {G : Gz} {bs : List Str} {k : Nat} {X : Cx} {N : List Str} {nm : List (Str × NameKind)} {ow : Str → Bool} {pos : Pos} {qb : Bool}
theorem zg_tupL {es : List Expr} {kk n : Nat} {is : List Nat} {h : List Dv → Fn En} (c : Cz G bs k X N nm ow) (hh : ZGs X is es h) (hn : (assignEach es X.env).length = n := by rfl) (hst : (assignEach es X.env).findIdx? (·.1) = none := by rfl) : ZG X qb is (.Tuple es kk pos) (gTpL n h) := by
  refine pg_mono (pg_unl c.calm hh hn hst) fun v σ H Q q => ?_
  obtain ⟨B, env, s, d, env', s', hE, hS, hr, hg, hQ⟩ := q
  unfold gTpL at hg
  split at hg
  · rename_i ds e1
    obtain ⟨hl, hg⟩ := Rs.iff_ok hg
    rw [Bool.and_eq_true] at hl
    have go : Rp X.K B H d v → gUnl X.K n (tOfGs X.K is h) v σ H Q := fun hr => by
      obtain ⟨a, xs, ev, hq, hrs⟩ := seqL_of hS hr hl.1 e1
      exact ⟨a, xs, ev, hq, hrs.length ▸ (beq_iff_eq.mp hl.2), B, env, s, ds, env', s', hE, hS, hrs, hg, hQ⟩
    cases qb with
    | false => exact go hr
    | true =>
      rcases hr with hr | ⟨a, xs, ds', ed, ev, hq, hrs⟩
      · exact go hr
      · subst ed; exact absurd hl.1 (by simp [isL])
  · cases hg
end
end Z

namespace Z
open PySem PySem.Spec PyProof.Rows L2

/-! ### data in a list of data -/
def gInD (x y : Dv) (s : Sto) : Rs Dv := match pyOf s x, pyOf s y with
  | some p, some (.list ps) => Rs.iff (SeqAt.shaped p && SeqAt.shaped (.list ps)) (.ok (.bl (ps.any fun z => PyData.eqv z p)) s)
  | _, _ => .bad
def gNotInD := gNot gInD
section
variable {G : Gz} {bs : List Str} {k : Nat} {X : Cx} {N : List Str} {nm : List (Str × NameKind)} {ow : Str → Bool} {a b c e : Expr} {fa fb fc : Fn Dv} {pos : Pos}
/-- a if t else b, where a and b may raise -/
def fIfX (t : Fn Bool) (f g : Fn Dv) : Fn Dv := fun env s => (t env s).sure.bind fun b s1 => if b = true then f env s1 else g env s1
end
end Z

namespace HT
open PySem PySem.Spec PyProof.Rows
section
variable {prog : Program} {w : World} {A : Around} {E : Value → Shared → Prop} {s : Shared}
end
end HT
namespace Z
open PySem PySem.Spec PyProof.Rows L2
/-! ### t[::-1] of a tuple -/
def tRevT (K : PySem.W.Frag) (te : TE) : TE := fun σ H Q => te σ H fun x H1 => ∃ a xs, x = .ref a ∧ SqT K H1 a xs ∧ ∀ p o, H1 p = none → o.dict = none → Q (.ref p) (upd H1 p (.frz o (.tup xs.reverse)))
section
variable {X : Cx}
end
def fRevT (f : Fn Dv) : Fn Dv := fun env s => (f env s).bind fun x s1 => match x with | .tup ds => .ok (.tup ds.reverse) s1 | _ => .bad
section
variable {X : Cx} {e : Expr} {fa : Fn Dv} {pos : Pos}
end
end Z

namespace Z
open PySem PySem.Spec PyProof.Rows L2

/-! ### a def of no parameters is called -/
section
variable {G : Gz} {bs : List Str} {k : Nat} {X : Cx} {N : List Str} {nm : List (Str × NameKind)} {ow : Str → Bool} {x : Str} {p pos : Pos} {φ : Phi}
end
end Z

namespace Z
open PySem PySem.Spec PyProof.Rows L2

/-! ### len(set(xs)), xs texts -/
def dstS (σ : List Str) (v : Str) : List Str := if σ.any (· == v) = true then σ else σ ++ [v]
/-- the unlike ones, in the order met -/
def dst (xs : List Str) : List Str := xs.foldl dstS []
section
variable {P : Program} {W : World} {C : Around} {Rr : Result → Shared → Prop} {J S : Addr} {fp wr : List Addr} {GG : Array GenState → Array GenState → Prop} {Pv : Nat → Value → Prop} {St : Nat → Shared → Prop} {xs : List Str}
end
end Z

namespace Z
open PySem PySem.Spec PyProof.Rows L2

/-! ### len(set(x)), x a list or tuple of texts -/
def strs? : List Dv → Option (List Str)
  | [] => some []
  | .str z :: r => (strs? r).map (z :: ·)
  | _ => none
def fLenSet (f : Fn Dv) : Fn Dv := fun env s => (f env s).bind fun x s1 => match (seqOf s1 x).bind strs? with
  | some zs => Rs.iff (decide (zs.length ≤ 4000)) (.ok (.int (dst zs).length) s1)
  | none => .bad
/-! ### str(int) -/
def gStr (xs : List Dv) (s : Sto) : Rs Dv := match xs with
  | [.int i] => Rs.iff (decide (i.natAbs.log2 < 1920)) (.ok (.str (toString i)) s)
  | _ => .bad
section
variable {G : Gz} {bs : List Str} {k : Nat} {X : Cx} {N : List Str} {nm : List (Str × NameKind)} {ow : Str → Bool} {e a : Expr} {fs : Fn (List Dv)} {fa : Fn Dv} {p pos apos : Pos}
/-! ### x.upper() -/
def gUpper (x : Dv) (s : Sto) : Rs Dv := match x with
  | .str z => Rs.iff (decide (z.length ≤ 5592405)) (.ok (.str (Txt.upper z)) s)
  | _ => .bad
/-! ### [..] * n, n written -/
def fTimesL (f : Fn (List Dv)) (n : Nat) : Fn (List Dv) := fun env s => (f env s).bind fun ds s1 => Rs.iff (decide (ds.length * n ≤ 16777216) && decide (n ≤ 1000)) (.ok (List.replicate n ds).flatten s1)
end
end Z

namespace Z
open PySem PySem.Spec PyProof.Rows L2

/-! ### truths beside ints: +, -, str -/
def b2n (b : Bool) : Int := if b = true then 1 else 0
def rBI (f : Int → Int → Int) : R2 := fun x y H Q => ∃ b j, x = .bl b ∧ y = .int j ∧ Q (.int (f (b2n b) j)) H
section
variable {X : Cx}
end
def gBI (f : Int → Int → Int) (g : Dv → Dv → Sto → Rs Dv) : Dv → Dv → Sto → Rs Dv := fun x y s => match x, y with
  | .bl b, .int j => .ok (.int (f (b2n b) j)) s
  | x, y => g x y s
abbrev gAddB := gBI (fun i j => i + j) gAdd
abbrev gSubB := gBI (fun i j => i - j) gSub
def gStrB (xs : List Dv) (s : Sto) : Rs Dv := match xs with
  | [.bl b] => .ok (.str (if b = true then Str.ofString "True" else Str.ofString "False")) s
  | [.int i] => Rs.iff (decide (i.natAbs.log2 < 1920)) (.ok (.str (toString i)) s)
  | _ => .bad
def rStrB : List V → Hp → VK → Prop := fun xs H Q => (∃ b : Bool, xs = [.bl b] ∧ Q (.str (if b = true then Str.ofString "True" else Str.ofString "False")) H) ∨ ∃ i : Int, xs = [.int i] ∧ i.natAbs.log2 < 1920 ∧ Q (.str (toString i)) H
section
variable {G : Gz} {bs : List Str} {k : Nat} {X : Cx} {N : List Str} {nm : List (Str × NameKind)} {ow : Str → Bool} {e a b : Expr} {fs : Fn (List Dv)} {fa fb : Fn Dv} {p pos apos : Pos}
end
end Z

namespace Z
open PySem PySem.Spec PyProof.Rows L2

/-! ### [d[n] for n in d if ..], d a dict -/
def dvV (ks0 : List (Key × V)) (T : Key → Bool) : List (Key × V) → Option (List V)
  | [] => some []
  | p :: r => if T p.1 = true then (match valV ks0 p.1, dvV ks0 T r with | some v, some vs => some (v :: vs) | _, _ => none) else dvV ks0 T r
def tDv (jd jn : Nat) (tt : TT) : TE := tLockE (tLc (iKeys (tVar jd)) (gName jn) tt (tDGet (tVar jd) (tVar jn)) [jn])
/-! ### .. as a reading -/
def dvD (kvs0 : List (Key × Dv)) (T : Key → Bool) : List (Key × Dv) → Option (List Dv)
  | [] => some []
  | p :: r => if T p.1 = true then (match lookK kvs0 p.1, dvD kvs0 T r with | some v, some vs => some (v :: vs) | _, _ => none) else dvD kvs0 T r
def dvT (ob : Option Nat) (env : En) : Option (Key → Bool) := match ob with
  | none => some fun _ => true
  | some j => match env[j]? with
    | some (some (.str b)) => some fun k => match k with | .inr z => !(z == b) | .inl _ => true
    | _ => none
def fDV (jd jn : Nat) (ob : Option Nat) : Fn (List Dv) := fun env s => match env[jd]? with
  | some (some (.loc n)) => match s[n]?, dvT ob env with
    | some (.dk kvs), some T => if jn < env.length ∧ kvs.length < 16777216 then (match dvD kvs T kvs with | some ds => .ok ds s | none => .bad) else .bad
    | _, _ => .bad
  | _ => .bad
section
variable {G : Gz} {bs : List Str} {k : Nat} {X : Cx} {N : List Str} {nm : List (Str × NameKind)} {ow : Str → Bool} {d n b : Str} {jd jn jb : Nat} {p1 p2 p3 p4 p5 p6 p7 p8 pos : Pos} {scope : Scope}
end
end Z

/-! # sorted(xs, key=f): whatever f's calls do to what is tracked -/
namespace Z
open PySem PySem.Spec PyProof.Rows L2 PySem.Calls PySem.W
section
variable {prog : Program} {w : World} {A : Around} {E : Value → Shared → Prop} {s : Shared}
/-- what is made of the keys that have been called for -/
structure KeyJ (prog : Program) (w : World) (A : Around) (f : Value) (vs : List Value) (a kS : Addr) (e1 : Nat) (J : Nat → List Value → Shared → Prop) : Prop where
  turn : ∀ (j : Nat) (x : Value) (t : Shared) (ks : List Value) (m : Nat), vs[j]? = some x → J j ks t → t.heap.get? kS = some (seqObj "list" ks.toArray m) → t.heap.get? a = some (seqObj "list" #[] e1) →
    wpAny (model prog w) A (call f [x]) (fun v t' => t'.heap.get? kS = some (seqObj "list" ks.toArray m) ∧ t'.heap.get? a = some (seqObj "list" #[] e1) ∧
      ∀ g, (∀ b o, b ≠ kS → t'.heap.get? b = some o → g.get? b = some o) → J (j + 1) (ks ++ [v]) { t' with heap := g }) (fun _ _ => False) t
end
end Z

/-! # lambdas of one parameter -/
namespace Z
open PySem PySem.Spec PyProof.Rows L2

/-! ### a lambda is made -/
/-- the def whose frame runs, its code object at c, its table at P -/
structure Lz (G : Gz) (X : Cx) (x : Str) (c P : Addr) : Prop where
  q : X.env.qual = x ++ (".<locals>." : Str)
  cd : X.env.code = .ref c
  ti : PySem.W.tabIn G.K x = some (c, P)
  tb : LamX.TabB G.base G.mg c P
  mem : x ∈ tabN
  inj : ∀ y ∈ tabN, ∀ c', PySem.W.tabIn G.K y = some (c', P) → lamQ y = lamQ x
def allT (K : PySem.W.Frag) : List (Addr × Str) := tabN.filterMap fun x => (PySem.W.tabIn K x).map fun p => (p.2, lamQ x)
theorem mem_allT {K : PySem.W.Frag} {x : Str} {c P : Addr} (hx : x ∈ tabN) (e : PySem.W.tabIn K x = some (c, P)) : (P, lamQ x) ∈ allT K :=
  List.mem_filterMap.mpr ⟨x, hx, by rw [e]; rfl⟩
theorem mutH_ne {u : HO} (h : MutH (some u)) : (∀ ps, u ≠ .tbl ps) ∧ ∀ c q, u ≠ LamX.CodeO c q := by
  refine ⟨fun ps z => by rw [z] at h; exact h, fun c q z => by
    unfold LamX.CodeO at z
    rw [z] at h; exact h⟩
section
variable {K : PySem.W.Frag} {B : Lo} {H H1 : Hp} {st : Sto}
/-- no code object among what changes -/
theorem Sim.noCode (S : Sim K B H st) {c : Addr} {q : Str} (e : LamX.ExtN H H1) (h : H1 c = some (LamX.CodeO c q)) : c ∉ B.locs ∧ c ∉ B.hid := by
  refine ⟨fun z => ?_, fun z => ?_⟩
  · obtain ⟨u, hu, hm⟩ := S.mem z
    rw [e c u hu (mutH_ne hm).1] at h
    exact (mutH_ne hm).2 c q (Option.some.inj h)
  · obtain ⟨_, u, hu, hm⟩ := S.hid c z
    rw [e c u hu (mutH_ne hm).1] at h
    exact (mutH_ne hm).2 c q (Option.some.inj h)
theorem Mo.extN (e : LamX.ExtN H H1) (t : ∀ b ps, H b = some (.tbl ps) → ∃ ps', H1 b = some (.tbl ps')) : Mo B H B H1 :=
  ⟨List.prefix_refl _, fun b o h _ _ n => e b o h n, fun b xs h => e b _ h (fun _ z => by cases z), fun b o u h => e b _ h (fun _ z => by cases z), fun _ z => z.elim .inl fun z => .inr (.inl z), t⟩
theorem Sim.extN (S : Sim K B H st) (e : LamX.ExtN H H1) (t : ∀ b ps, H b = some (.tbl ps) → ∃ ps', H1 b = some (.tbl ps')) (T : LamX.Tabs (allT K) H1) : Sim K B H1 st := by
  have m := Mo.extN (B := B) e t
  refine ⟨S.nd, S.len, fun n a o e1 e2 => ?_, fun b hb => ?_, fun x hx c P et => ?_⟩
  · obtain ⟨u, hu, hm⟩ := (S.obs n a o e1 e2).there
    exact (S.obs n a o e1 e2).mono m ((e a u hu (mutH_ne hm).1).trans hu.symm)
  · obtain ⟨h1, u, hu, hm⟩ := S.hid b hb
    exact ⟨h1, u, e b u hu (mutH_ne hm).1, hm⟩
  · obtain ⟨ps, h1, h2, h3⟩ := T _ (mem_allT hx et)
    refine ⟨ps, h1, h2, fun pos cv hc => ?_⟩
    obtain ⟨c', a1, a2⟩ := h3 pos cv hc
    exact ⟨c', a1, a2, S.noCode e a2⟩
theorem Ext.extN (S : Sim K B H st) (e : LamX.ExtN H H1) (t : ∀ b ps, H b = some (.tbl ps) → ∃ ps', H1 b = some (.tbl ps')) : Ext B H B H1 :=
  ⟨Mo.extN e t, fun b o h hb => by
    obtain ⟨_, u, hu, hm⟩ := S.hid b hb
    rw [h] at hu; cases hu
    exact e b _ h (mutH_ne hm).1, fun _ h => h, fun _ h => .inl h⟩
end
section
variable {G : Gz} {bs : List Str} {k : Nat} {X : Cx} {N : List Str} {nm : List (Str × NameKind)} {ow : Str → Bool} {x : Str} {c P : Addr}
/-- the lambda's object -/
abbrev lamO (X : Cx) (params : Arguments) (body : Expr) (scope : Scope) (pm : Value) (c' : Addr) (ctv : Value) : Obj :=
  PySem.W.kla_obj "<lambda>" (X.env.qual ++ "<lambda>") params body scope (cloFrom X.env.cells scope.names []) pm c' ctv
/-- what the making does to what is tracked -/
def MadeAt (P c' : Addr) (q : Str) (H H1 : Hp) : Prop := H1 = H ∨ ∃ ps more : Array Value, H P = some (.tbl ps) ∧ H c' = none ∧ H1 = upd (upd H P (.tbl (ps ++ more))) c' (LamX.CodeO c' q)
theorem MadeAt.extN {P c' : Addr} {q : Str} {H H1 : Hp} (h : MadeAt P c' q H H1) : LamX.ExtN H H1 := by
  rcases h with rfl | ⟨ps, more, h1, h2, rfl⟩
  · exact LamX.ExtN.refl _
  · intro b o e n
    rw [upd_ne (ne_of_none e h2), upd_ne (fun z : b = P => by
      rw [z, h1] at e
      exact n ps (Option.some.inj e).symm)]
    exact e
theorem MadeAt.tbls {P c' : Addr} {q : Str} {H H1 : Hp} (h : MadeAt P c' q H H1) : ∀ b ps, H b = some (.tbl ps) → ∃ ps', H1 b = some (.tbl ps') := by
  rcases h with rfl | ⟨ps, more, h1, h2, rfl⟩
  · exact fun b ps e => ⟨ps, e⟩
  · intro b qs e
    rw [upd_ne (ne_of_none e h2)]
    by_cases hb : b = P
    · exact ⟨_, by rw [hb]; exact upd_same⟩
    · exact ⟨qs, by rw [upd_ne hb]; exact e⟩
theorem MadeAt.tabs {T : List (Addr × Str)} {P c' : Addr} {q : Str} {H H1 : Hp} (h : MadeAt P c' q H H1) (hT : LamX.Tabs T H) (hne : ∀ p ∈ T, p.1 ≠ P) : LamX.Tabs T H1 := by
  rcases h with rfl | ⟨ps, more, h1, h2, rfl⟩
  · exact hT
  · intro p hp
    obtain ⟨qs, a1, a2, a3⟩ := hT p hp
    have e := MadeAt.extN (P := P) (c' := c') (q := q) (H := H) (.inr ⟨ps, more, h1, h2, rfl⟩)
    refine ⟨qs, by rw [upd_ne (ne_of_none a1 h2), upd_ne (hne p hp)]; exact a1, a2, fun pos cv hc => ?_⟩
    obtain ⟨c0, b1, b2⟩ := a3 pos cv hc
    exact ⟨c0, b1, e _ _ b2 LamX.codeO_ne⟩
end
end Z

/-! # a lambda of one parameter is called -/
namespace Z
open PySem PySem.Spec PyProof.Rows L2
/-- one parameter, captured names, names of the module -/
structure LamS1 (nm : List (Str × NameKind)) (scope : Scope) (a : Str) : Prop where
  kind : scope.kind = .function
  co : scope.isCoroutine = false
  gen : scope.isGenerator = false
  par : scope.names.lookup a = some .local
  own : ∀ y ∈ scope.names, y.2 ≠ .cell ∧ (y.2 = .local → y.1 = a)
  free : ∀ y ∈ scope.names, y.2 = .free → nm.lookup y.1 = some .cell ∨ nm.lookup y.1 = some .free
def lamS1B (nm : List (Str × NameKind)) (scope : Scope) (a : Str) : Bool :=
  decide (scope.kind = .function) && !scope.isCoroutine && !scope.isGenerator && decide (scope.names.lookup a = some .local) &&
    scope.names.all fun y => !decide (y.2 = .cell) && (!decide (y.2 = .local) || decide (y.1 = a)) && (!decide (y.2 = .free) || decide (nm.lookup y.1 = some .cell) || decide (nm.lookup y.1 = some .free))
/-- the context of its body, called at s within X -/
def keyCx (X : Cx) (A : Around) (s : Shared) (H : Hp) (scope : Scope) (f c' : Addr) : Cx := (LamX.lamCx X A X.stack s H E0 scope f c').nox
/-- where it is called -/
structure KeyA (X : Cx) (A : Around) (k : Nat) : Prop where
  dp : A.depth < recursionLimit
  hd : A.handled = none
  fr : A.frames = X.A.frames
  gd : A.guards = X.A.guards
  rm : ∀ env : Env, Room k (A.deeper env)
section
variable {G : Gz} {bs : List Str} {k k' : Nat} {X : Cx} {N : List Str} {nm : List (Str × NameKind)} {ow : Str → Bool} {A : Around}
theorem KeyA.in1 (r : Room (k + 1) X.A) : KeyA X X.A.in1 k :=
  ⟨by have := r.dp; show X.A.depth < _; omega, r.hd, rfl, rfl, fun env => ⟨r.hd, by have := r.dp; show X.A.depth + 1 + 3 * k + 5 < _; omega, by have := r.un; show X.A.units + 1 + 3 + 16 * k + 200 < _; omega⟩⟩
theorem LamS1.has (c : Cz G bs k X N nm ow) {scope : Scope} {a : Str} (L : LamS1 nm scope a) (ok : X.Ok) : ∀ y ∈ scope.names, y.2 = .free → ∃ c, X.env.cells.lookup y.1 = some c := fun y hy e => by
  have eN : X.env.scope.names = nm := c.nm
  rcases L.free y hy e with z | z
  · exact ok.has _ (.inl (by show X.env.scope.names.lookup _ = _; rw [eN]; exact z))
  · exact ok.has _ (.inr (by show X.env.scope.names.lookup _ = _; rw [eN]; exact z))
end
end Z

/-! # sorted(x, key=lambda a: ..) -/
namespace Z
open PySem PySem.Spec PyProof.Rows L2
section
variable {X : Cx} {pins : List (Addr × Obj)} {σ : L2.St} {H : Hp} {s : Shared}
end
/-- the keys of the items, one call behind the other -/
def keysZ (j : Nat) (te : Fn Dv) (env : En) : List Dv → Sto → Rs (List Dv)
  | [], s => .ok [] s
  | d :: ds, s => (te (env.set j (some d)) s).bind fun y s1 => (keysZ j te env ds s1).bind fun ys s2 => .ok (y :: ys) s2
def fSortK (j : Nat) (te : Fn Dv) (fs : Fn (List Dv)) : Fn (List Dv) := fun env s => (fs env s).bind fun xs s1 => match xs with
  | [x] => match seqOf s1 x with
    | some ds => Rs.iff (decide (ds.length ≤ 16777216)) ((keysZ j te env ds s1).bind fun ks s2 => match ks.mapM (pyOf s2) with
      | some ps => Rs.iff (alikeB ps && sortB ps && ds.length == ps.length) (.ok (sortD ds ps) s2)
      | none => .bad)
    | none => .bad
  | _ => .bad
section
variable {G : Gz} {bs : List Str} {k : Nat} {X : Cx} {N : List Str} {nm : List (Str × NameKind)} {ow : Str → Bool} {x a : Str} {cc P : Addr} {j : Nat} {e body : Expr} {params : Arguments} {scope : Scope} {fa te : Fn Dv} {fs : Fn (List Dv)} {p lpos kpos pos : Pos}
end
end Z

/-! # defs in which lambdas are made -/
namespace Z
open PySem PySem.Spec PyProof.Rows L2
section
variable {G : Gz} {bs : List Str} {k : Nat} {X : Cx} {N : List Str} {nm : List (Str × NameKind)} {ow : Str → Bool} {elt tg iter : Expr} {ifs : List Expr} {scope : Scope} {own : List (Str × Nat)} {pos : Pos} {q : Bool} {fi : Fn Src} {is : List Nat} {g : Dv → Fn En} {tt : Fn Bool} {te : Fn Dv}
end
end Z

/-! # [..] * a number that is made up -/
namespace Z
open PySem PySem.Spec PyProof.Rows L2
def fTimesE (f : Fn (List Dv)) (g : Fn Dv) : Fn (List Dv) := fun env s => (f env s).bind fun ds s1 => (g env s1).bind fun y s2 => match y with
  | .int i => Rs.iff (decide (0 ≤ i) && decide (i ≤ 1000) && decide (ds.length * i.toNat ≤ 16777216)) (.ok (List.replicate i.toNat ds).flatten s2)
  | _ => .bad
section
variable {X : Cx} {a b : Expr} {f : Fn (List Dv)} {g : Fn Dv} {pos : Pos}
end
end Z

/-! # a name in a dict -/
namespace Z
open PySem PySem.Spec PyProof.Rows L2
def gInK (x y : Dv) (s : Sto) : Rs Dv := match y with
  | .loc n => match s[n]? with
    | some (.dk kvs) => match keyD x with
      | some k => .ok (.bl (kvs.any fun kv => decide (kv.1 = k))) s
      | none => .bad
    | _ => .bad
  | _ => .bad
def gNotInK := gNot gInK
theorem gInK_ok {x y d : Dv} {s s' : Sto} (h : gInK x y s = .ok d s') : ∃ n k kvs, y = .loc n ∧ keyD x = some k ∧ s[n]? = some (.dk kvs) ∧ d = .bl (kvs.any fun kv => decide (kv.1 = k)) ∧ s' = s := by
  unfold gInK at h
  split at h
  · split at h
    · rename_i e1
      split at h
      · rename_i e2
        cases h
        exact ⟨_, _, _, rfl, e2, e1, rfl, rfl⟩
      · cases h
    · cases h
  · cases h
def rInK (neg : Bool) : R2 := fun y x H Q => ∃ a o, x = .ref a ∧ DGet H a y o ∧ Q (.bl (if neg then !o.isSome else o.isSome)) H
theorem any_rel {R : Dv → V → Prop} {k : Key} : ∀ {kvs : List (Key × Dv)} {ks : List (Key × V)}, Paired (fun (p : Key × Dv) (q : Key × V) => p.1 = q.1 ∧ R p.2 q.2) kvs ks → (kvs.any fun kv => decide (kv.1 = k)) = (ks.any fun kv => decide (kv.1 = k))
  | _, _, .nil => rfl
  | _, _, .cons h t => by rw [List.any_cons, List.any_cons, any_rel t, h.1]
section
variable {G : Gz} {bs : List Str} {k : Nat} {X : Cx} {N : List Str} {nm : List (Str × NameKind)} {ow : Str → Bool} {a b c e : Expr} {fa fb fc : Fn Dv} {pos : Pos}
theorem op_inK (hu : X.A.units + 1 < cLine) : OpR X (compareOp .In) (rInK false) := by
  intro pins s σ H x y v u Q I rx ry h
  obtain ⟨a, o, rfl, g, q⟩ := h
  cases ry
  exact d_in hu I g rx fun s3 I3 => ⟨.bl o.isSome, H, I3, rfl, q⟩
theorem op_notInK (hu : X.A.units + 1 < cLine) : OpR X (compareOp .NotIn) (rInK true) := by
  intro pins s σ H x y v u Q I rx ry h
  obtain ⟨a, o, rfl, g, q⟩ := h
  cases ry
  exact d_notIn hu I g rx fun s3 I3 => ⟨.bl (!o.isSome), H, I3, rfl, q⟩
theorem oz_inK {K : PySem.W.Frag} : OpZ K (rInK false) gInK := by
  intro B H s x y v w d s' Q S rx ry h q
  obtain ⟨n, ky, kvs, rfl, ek, e1, rfl, rfl⟩ := gInK_ok h
  cases ry with
  | loc hl =>
    obtain ⟨o, ho, ro⟩ := S.at hl
    rw [e1] at ho; cases ho
    obtain ⟨ks, h7, h8⟩ := ro
    rw [key_rp rx ek]
    refine ⟨_, _, rfl, DGet.k h7, ?_⟩
    have q := q.same S (.bl _)
    rw [any_rel h8, valV_any] at q
    exact q
theorem oz_notinK {K : PySem.W.Frag} : OpZ K (rInK true) gNotInK := by
  intro B H s x y v w d s' Q S rx ry h q
  obtain ⟨b, s1, h, h5⟩ := Rs.bind_ok h
  obtain ⟨n, ky, kvs, rfl, ek, e1, rfl, rfl⟩ := gInK_ok h
  cases h5
  cases ry with
  | loc hl =>
    obtain ⟨o, ho, ro⟩ := S.at hl
    rw [e1] at ho; cases ho
    obtain ⟨ks, h7, h8⟩ := ro
    rw [key_rp rx ek]
    refine ⟨_, _, rfl, DGet.k h7, ?_⟩
    have q := q.same S (.bl _)
    rw [any_rel h8, valV_any] at q
    exact q
theorem z_inKT (c : Cz G bs k X N nm ow) (ha : ZE X a fa) (hb : ZE X b fb) (hm : behindInMarks .In b = false := by rfl) : ZT X (.Compare a [.In] [b] pos) (fTest (fBin gInK fa fb)) := z_cmpT (op_inK (by have := c.rm.un; omega)) oz_inK ha hb hm
theorem z_notinKT (c : Cz G bs k X N nm ow) (ha : ZE X a fa) (hb : ZE X b fb) (hm : behindInMarks .NotIn b = false := by rfl) : ZT X (.Compare a [.NotIn] [b] pos) (fTest (fBin gNotInK fa fb)) := z_cmpT (op_notInK (by have := c.rm.un; omega)) oz_notinK ha hb hm
end
end Z

/-! # d.get(k, x) -/
namespace Z
open PySem PySem.Spec PyProof.Rows L2
def isDk (x : Dv) (s : Sto) : Bool := match x with
  | .loc n => match s[n]? with
    | some (.dk _) => true
    | _ => false
  | _ => false
def gGetD (x y z : Dv) (s : Sto) : Rs Dv := match x with
  | .loc n => match s[n]? with
    | some (.dk kvs) => match keyD y with
      | some k => .ok ((lookK kvs k).getD z) s
      | none => .bad
    | _ => .bad
  | _ => .bad
theorem isDk_ok {x : Dv} {s : Sto} (h : isDk x s = true) : ∃ n kvs, x = .loc n ∧ s[n]? = some (.dk kvs) := by
  unfold isDk at h
  split at h
  · split at h
    · rename_i e
      exact ⟨_, _, rfl, e⟩
    · cases h
  · cases h
theorem gGetD_ok {x y z d : Dv} {s s' : Sto} (h : gGetD x y z s = .ok d s') : ∃ n k kvs, x = .loc n ∧ keyD y = some k ∧ s[n]? = some (.dk kvs) ∧ d = (lookK kvs k).getD z ∧ s' = s := by
  unfold gGetD at h
  split at h
  · split at h
    · rename_i e1
      split at h
      · rename_i e2
        cases h
        exact ⟨_, _, _, rfl, e2, e1, rfl, rfl⟩
      · cases h
    · cases h
  · cases h
def fGet2 (fo fe ff : Fn Dv) : Fn Dv := fun env s => (fo env s).bind fun x s1 => Rs.iff (isDk x s1) ((fe env s1).bind fun y s2 => (ff env s2).bind fun z s3 => gGetD x y z s3)
theorem look_none {R : Dv → V → Prop} {k : Key} {kvs : List (Key × Dv)} {ks : List (Key × V)} (p : Paired (fun (p : Key × Dv) (q : Key × V) => p.1 = q.1 ∧ R p.2 q.2) kvs ks) (h : lookK kvs k = none) : valV ks k = none := by
  have h1 : (kvs.any fun kv => decide (kv.1 = k)) = false := by
    have h : (kvs.find? fun kv => decide (kv.1 = k)).map (·.2) = none := h
    rw [Option.map_eq_none_iff, List.find?_eq_none] at h
    rw [List.any_eq_false]
    exact h
  rw [any_rel p, valV_any] at h1
  cases e : valV ks k with
  | none => rfl
  | some v => rw [e] at h1; cases h1
section
variable {G : Gz} {bs : List Str} {k : Nat} {X : Cx} {N : List Str} {nm : List (Str × NameKind)} {ow : Str → Bool} {o e f : Expr} {fo fe ff : Fn Dv} {apos cpos : Pos}
theorem z_get2 (c : Cz G bs k X N nm ow) (ho : ZE X o fo) (he : ZE X e fe) (hf : ZE X f ff) (hbase : attributeBase o "get" X.env (eval o X.env) = eval o X.env := by rfl)
    (hfew : ((backTo cpos (starEach [e, f] X.env)).all (fun x => !x.1) && (backToKw cpos (keywordEach [] X.env)).all (fun x => x.1.isSome)
      && decide (([e, f] : List Expr).length + ([] : List Keyword).length + (if ([] : List Keyword).isEmpty then 0 else 1) < 30)) = true := by rfl)
    (hline : (apos.endLine == cpos.line) = true := by rfl) (htr : backTo cpos (starEach [e, f] X.env) = [(false, eval e X.env), (false, eval f X.env)] := by rfl) :
    ZE X (.Call (.Attribute o "get" apos) [e, f] [] cpos) (fGet2 fo fe ff) := by
  refine pe_mono (pe_dget2 (by have := c.rm.un; omega) ho he hf ⟨hbase, hfew, hline, htr⟩) fun σ H Q q => ?_
  obtain ⟨B, env, s, d, s', hE, hS, hg, hQ⟩ := q
  obtain ⟨x, s1, h1, hg⟩ := Rs.bind_ok hg
  obtain ⟨hc, hg⟩ := Rs.iff_ok hg
  obtain ⟨y, s2, h2, hg⟩ := Rs.bind_ok hg
  obtain ⟨z, s3, h3, hg⟩ := Rs.bind_ok hg
  obtain ⟨n, ky, kvs, rfl, ek, e3, rfl, rfl⟩ := gGetD_ok hg
  obtain ⟨n', kvs1, en, e1⟩ := isDk_ok hc
  cases en
  refine ⟨B, env, s, _, _, hE, hS, h1, fun B1 H1 v x1 g1 S1 r1 => ?_⟩
  cases r1 with
  | loc hl =>
    obtain ⟨ob, hob, ro⟩ := S1.at hl
    rw [e1] at hob; cases hob
    obtain ⟨ks1, h7, _⟩ := ro
    refine ⟨_, rfl, .inl ⟨ks1, .inl h7⟩, B1, env, s1, _, _, hE.mono x1.mo, S1, h2, fun B2 H2 w x2 g2 S2 r2 => ?_⟩
    refine ⟨B2, env, s2, _, _, hE.mono (x1.trans x2).mo, S2, h3, fun B3 H3 u x3 g3 S3 r3 => ?_⟩
    have hl3 := pre_get (x2.trans x3).mo.pre hl
    obtain ⟨ob, hob, ro⟩ := S3.at hl3
    rw [e3] at hob; cases hob
    obtain ⟨ks, h8, h9⟩ := ro
    rw [key_rp r2 ek]
    have xx := x1.trans (x2.trans x3)
    have ee := g3.trans (g2.trans g1)
    refine ⟨_, DGet.k h8, ?_⟩
    cases hk : lookK kvs ky with
    | none =>
      rw [hk] at hQ
      rw [look_none h9 hk]
      exact hQ B3 H3 u xx ee S3 r3
    | some d1 =>
      rw [hk] at hQ
      obtain ⟨w1, hw, rw1⟩ := look_rel h9 hk
      rw [hw]
      exact hQ B3 H3 w1 xx ee S3 rw1
end
end Z

/-! # min(x, key=lambda a: ..) of a tuple, where the keys read only -/
namespace Z
open PySem PySem.Spec PyProof.Rows L2 PySem.Calls
section
variable {G : Gz} {bs : List Str} {k k' : Nat} {X : Cx} {N : List Str} {nm : List (Str × NameKind)} {ow : Str → Bool} {A : Around}
end
/-- the keys, where reading them leaves all as it is -/
noncomputable def keysI (j : Nat) (te : Fn Dv) (env : En) (s : Sto) (ds : List Dv) : Option (List Int) :=
  open Classical in if h : ∃ ks : List Int, ∀ i d, ds[i]? = some d → te (env.set j (some d)) s = .ok (.int (ks.getD i 0)) s then some (Classical.choose h) else none
def ltI (ks : List Int) (i j : Nat) : Bool := decide (ks.getD i 0 < ks.getD j 0)
noncomputable def fMinK (j : Nat) (te : Fn Dv) (fs : Fn (List Dv)) : Fn Dv := fun env s => (fs env s).bind fun xs s1 => match xs with
  | [.tup ds] => match keysI j te env s1 ds with
    | some ks => match ds[argBest (ltI ks) (ds.length - 1)]? with
      | some d => .ok d s1
      | none => .bad
    | none => .bad
  | _ => .bad
section
variable {G : Gz} {bs : List Str} {k : Nat} {X : Cx} {N : List Str} {nm : List (Str × NameKind)} {ow : Str → Bool} {x a : Str} {cc P : Addr} {j : Nat} {e body : Expr} {params : Arguments} {scope : Scope} {fa te : Fn Dv} {fs : Fn (List Dv)} {p lpos kpos pos : Pos}
end
end Z

/-! # min(xs) of a list of data -/
namespace Z
open PySem PySem.Spec PyProof.Rows L2
def ltD (ps : List PyData) (i j : Nat) : Bool := PySem.W.dataLt (ps.getD i .none) (ps.getD j .none)
def noNone (ps : List PyData) : Bool := ps.all fun p => match p with | .none => false | _ => true
def gMinD (xs : List Dv) (s : Sto) : Rs Dv := match xs with
  | [x] => match seqOf s x with
    | some ds => match ds.mapM (pyOf s) with
      | some ps => Rs.iff (isL x s && (alikeB ps && noNone ps) && ds.length == ps.length) (match ds[PySem.argBest (ltD ps) (ds.length - 1)]? with
        | some d => .ok d s
        | none => .bad)
      | none => .bad
    | none => .bad
  | _ => .bad
def rMinD (K : PySem.W.Frag) : List V → Hp → VK → Prop := fun vs H Q => ∃ (a : Addr) (us : List V) (ps : List PyData), vs = [V.ref a] ∧ SqL K H a us ∧ DpAll K H us ps ∧ PySem.W.AlikeAll ps ∧ us.length = ps.length ∧ 0 < us.length ∧ (∀ p ∈ ps, p.depth ≤ 40) ∧
  ∀ v, us[PySem.argBest (ltD ps) (us.length - 1)]? = some v → Q v H
section
variable {X : Cx}
end
section
variable {G : Gz} {bs : List Str} {k : Nat} {X : Cx} {N : List Str} {nm : List (Str × NameKind)} {ow : Str → Bool} {e : Expr} {fs : Fn (List Dv)} {pos p : Pos}
end
end Z

/-! # y = [.. for ..], with a lambda within -/
namespace Z
open PySem PySem.Spec PyProof.Rows L2
section
variable {G : Gz} {bs : List Str} {k : Nat} {X : Cx} {N : List Str} {nm : List (Str × NameKind)} {ow : Str → Bool} {q : Bool} {tg iter elt : Expr} {ifs : List Expr} {scope : Scope} {fsr : Fn Src} {is : List Nat} {g : Dv → Fn En} {tt : Fn Bool} {te : Fn Dv} {pos : Pos} {y : Str}
end
end Z

/-! # Defs that may raise, with defaults, by keywords -/
namespace Z
open PySem PySem.Spec PyProof.Rows L2
section
variable {G : Gz} {bs : List Str} {k : Nat} {X : Cx} {N : List Str} {nm : List (Str × NameKind)} {ow : Str → Bool} {W : WX} {e : Expr} {es : List Expr} {fs gs : Fn (List Dv)} {pos p : Pos} {x : Str} {n : Nat} {φ : Phi}
structure FdX (G : Gz) (k : Nat) (x : Str) (n : Nat) (φ : Phi) (f : Addr) (fd : FuncData) (ps : List Str) : Prop where
  len : ∀ ds s, φ ds s ≠ .bad → ds.length = n
  mg : G.mg x = some (.ref f)
  kp : PySem.W.keepIn G.K (.ref f) = true
  hn : ps.length = n
  run : FnX G k f fd ps (spX G.K G.mg n φ)
theorem FdX.mono {G : Gz} {j k : Nat} {x : Str} {n : Nat} {φ : Phi} {f : Addr} {fd : FuncData} {ps : List Str} (F : FdX G j x n φ f fd ps) (h : j ≤ k) : FdX G k x n φ f fd ps :=
  ⟨F.len, F.mg, F.kp, F.hn, ⟨fun A outer s H args us vs Q E hg hr => F.run.run A outer s H args us vs Q E hg (hr.mono h)⟩⟩
def fCallXK (φ : Phi) (m j : Nat) (f g : Fn (List Dv)) : Fn Dv := fun env s => ((f env s).bind fun xs s1 => (g env s1).bind fun zs s2 => Rs.iff (xs.length == m && zs.length == j) (.ok (xs ++ zs) s2)).sure.bind φ
end
end Z

/-! # A lambda without parameters that may raise, asked where an error is handled -/
namespace Z
open PySem PySem.Spec PyProof.Rows L2
/-- no parameter, no name of its own -/
structure LamS0 (nm : List (Str × NameKind)) (scope : Scope) : Prop where
  kind : scope.kind = .function
  co : scope.isCoroutine = false
  gen : scope.isGenerator = false
  own : ∀ y ∈ scope.names, y.2 ≠ .local ∧ y.2 ≠ .cell
  free : ∀ y ∈ scope.names, y.2 = .free → nm.lookup y.1 = some .cell ∨ nm.lookup y.1 = some .free
def lamS0B (nm : List (Str × NameKind)) (scope : Scope) : Bool :=
  decide (scope.kind = .function) && !scope.isCoroutine && !scope.isGenerator && scope.names.all fun y => !decide (y.2 = .local) && !decide (y.2 = .cell) && (!decide (y.2 = .free) || decide (nm.lookup y.1 = some .cell) || decide (nm.lookup y.1 = some .free))
/-- where the lambda's body runs -/
def askCx (X : Cx) (A : Around) (outer : List Env) (s : Shared) (H : Hp) (E : XK) (scope : Scope) (f c' : Addr) : Cx :=
  (LamX.lamCx X A outer s H E0 scope f c').wish (fun e s' => wpAny (model X.prog X.w) (A.deeper (LamX.lamEnv X scope s.heap.objs.size f c')) (leaving (LamX.lamEnv X scope s.heap.objs.size f c') e) (fun _ s'' => L2N.CX X.prog X.w outer H s E e s'') (fun e' s'' => L2N.CX X.prog X.w outer H s E e' s'') s')
section
variable {G : Gz} {bs : List Str} {k k' : Nat} {X : Cx} {N : List Str} {nm : List (Str × NameKind)} {ow : Str → Bool} {x : Str} {c P : Addr}
/-- what the asking of a lambda comes to: its body's reading at the maker's slots -/
def tAsk (K : PySem.W.Frag) (mg : Str → Option Value) (i : Nat) (f c' : Addr) (q : Str) (σ : L2.St) (fb : Fn Dv) (W : WX) : TE := fun σZ HZ Q => σZ[i]? = some (some (.ref f)) ∧ HZ c' = some (LamX.CodeO c' q) ∧ tX K mg (fun cls d _ H => WE W σZ cls d H) fb σ HZ Q
end
end Z

/-! # _law_heard(lambda: ..) -/
namespace Z
open PySem PySem.Spec PyProof.Rows L2 PySem.W
def oddT : Dv := .tup [.str (Str.ofString "odd")]
/-- the shape of the def, its suite's reading -/
structure HeardB (pr : Nat → Bool) (G : Gz) (bs : List Str) (k : Nat) (Nh : List Str) (nmh : List (Str × NameKind)) (st : Stmt) (gs : Addr → Addr → Nat → Fn Ct) : Prop where
  scope : FnScope Nh ["ask"] (defScope st)
  names : (defScope st).names = nmh
  n0 : Nh[0]? = some ("ask" : Str)
  n1 : Nh[1]? = some ("found" : Str)
  n2 : Nh[2]? = some ("e" : Str)
  l0 : nmh.lookup ("ask" : Str) = some .local
  l1 : nmh.lookup ("found" : Str) = some .local
  l2 : nmh.lookup ("e" : Str) = some .local
  g1 : gOk nmh "CountError" = true
  g2 : gOk nmh "LostError" = true
  shape : ∃ (b0 : Stmt) (suite : List Stmt) (p1 p2 p3 p4 p5 p6 p7 p8 p9 p10 p11 p12 p13 p14 p15 p16 p17 : Pos) (j1 j2 k1 k2 k3 : Nat),
    defBody st = [.Assign [.Name "found" p1] (.Tuple [.Constant (.str "odd") j1 p2] k1 p3) p4,
      .Try [.Assign [.Name "found" p5] (.Tuple [.Constant (.str "told") j2 p6, .Call (.Name "ask" p7) [] [] p8] k2 p9) p10]
        [.ExceptHandler (some (.Tuple [.Name "CountError" p11, .Name "LostError" p12] k3 p13)) (some "e") (b0 :: suite) p14] [] [] p15,
      .Return (some (.Name "found" p16)) p17] ∧
    ∀ (X' : Cx) (a dd : Addr) (cn : Nat), Ch pr G bs k X' Nh nmh a dd cn → ZB X' (b0 :: suite) (gs a dd cn)
noncomputable def fHeard (pr : Nat → Bool) (m : Nat) (gs : Addr → Addr → Nat → Fn Ct) (fb : Fn Dv) : Fn Dv := fun env s => match fb env s with
  | .ok d s1 => gcZ s.length (.tup [.str (Str.ofString "told"), d]) s1
  | .exc (.xn _ _ cn fs) s1 => Rs.iff (decide (cn < 9) && pr cn) (allX fun a dd => (gs a dd cn (((List.replicate m none).set 1 (some oddT)).set 2 (some (.xn a dd cn fs))) s1).bind fun ct s2 => match ct with
    | .next e => (match e[1]? with | some (some d) => gcZ s.length d s2 | _ => .bad)
    | _ => .bad)
  | _ => .bad
abbrev heardCx (X : Cx) (Nh : List Str) (st : Stmt) (g : Addr) (cdv : Value) (s' : Shared) (H1 : Hp) : Cx := cxOf CX0 X.prog X.w X.K X.mg X.base Nh "_law_heard" (defScope st) g cdv X.A X.stack s' H1 E0
section
variable {pr : Nat → Bool} {G : Gz} {bs bsh : List Str} {k kh : Nat} {X : Cx} {N Nh : List Str} {nm nmh : List (Str × NameKind)} {ow : Str → Bool} {x : Str} {cc P : Addr} {params : Arguments} {body : Expr} {scope : Scope} {fb : Fn Dv} {p lpos pos : Pos} {st : Stmt} {g : Addr} {fd : FuncData} {gs : Addr → Addr → Nat → Fn Ct} {A : Nat → Addr}
end
end Z

/-! # Where an error is handled: places, in, count -/
namespace Z
open PySem PySem.Spec PyProof.Rows L2
section
variable {X : Cx}
def rCountV (K : PySem.W.Frag) : V → List V → Hp → VK → Prop := fun x xs H Q => ∃ (a : Addr) (ys : List V) (y : V), x = V.ref a ∧ xs = [y] ∧ SqL K H a ys ∧ flatV y = true ∧ ys.all flatV = true ∧ Q (.int ((ys.countP fun z => eqV z y : Nat) : Int)) H
end
def gCountL (x : Dv) (xs : List Dv) (s : Sto) : Rs Dv := match xs with
  | [y] => match fV y, (seqOf s x).bind (·.mapM fV) with
    | some u, some us => Rs.iff (isL x s) (.ok (.int ((us.countP fun z => eqV z u : Nat) : Int)) s)
    | _, _ => .bad
  | _ => .bad
section
variable {X : Cx} {o a b e : Expr} {fo fa fb : Fn Dv} {fs : Fn (List Dv)} {apos cpos pos : Pos}
end
end Z

/-! # tuple * int, of any number from nought -/
namespace L2
open PySem PySem.Spec PyProof.Rows
end L2
namespace Z
open PySem PySem.Spec PyProof.Rows L2
def rMul1 (K : PySem.W.Frag) : R2 := fun x y H Q => ∃ l xs, x = .ref l ∧ y = .int 1 ∧ SqT K H l xs ∧ Q x H
def rMul0 (K : PySem.W.Frag) : R2 := fun x y H Q => ∃ l xs, x = .ref l ∧ y = .int 0 ∧ SqT K H l xs ∧ xs ≠ [] ∧ ∀ p o, H p = none → o.dict = none → Q (.ref p) (upd H p (.frz o (.tup [])))
def rTimesN (K : PySem.W.Frag) : R2 := fun x y H Q => rTimes K x y H Q ∨ rMul1 K x y H Q ∨ rMul0 K x y H Q
def gTimesN (x y : Dv) (s : Sto) : Rs Dv := match x, y with
  | .int i, .int j => Rs.iff (cMul i j) (.ok (.int (i * j)) s)
  | .tup ds, .int k => Rs.iff (!ds.isEmpty && decide (0 ≤ k) && decide (k ≤ 1000) && decide (ds.length ≤ 1000)) (.ok (.tup (List.replicate k.toNat ds).flatten) s)
  | _, _ => .bad
section
variable {X : Cx} {a b : Expr} {fa fb : Fn Dv} {pos : Pos}
end
end Z

/-! # xs.insert(i, y) -/
namespace Z
open PySem PySem.Spec PyProof.Rows L2
def rIns : V → List V → Hp → VK → Prop := fun x vs H Q => ∃ (l : Addr) (xs : List V) (i : Int) (y : V), x = .ref l ∧ vs = [.int i, y] ∧ H l = some (.lst xs) ∧ xs.length < sizeLine ∧ 0 ≤ i ∧ i < 2 ^ 63 ∧ Q .non (upd H l (.lst (xs.take i.toNat ++ [y] ++ xs.drop i.toNat)))
def gInsert (x : Dv) (xs : List Dv) (s : Sto) : Rs Dv := match x, xs with
  | .loc n, [.int i, d] => match s[n]? with
    | some (.lst ds) => Rs.iff (decide (ds.length < 16777216) && decide (0 ≤ i) && decide (i < 2 ^ 63)) (.ok .non (s.set n (.lst (ds.take i.toNat ++ [d] ++ ds.drop i.toNat))))
    | _ => .bad
  | _, _ => .bad
section
variable {X : Cx} {o e1 e2 : Expr} {fo : Fn Dv} {fs : Fn (List Dv)} {apos cpos : Pos}
end
end Z

/-! # list(range(a, b)), list(range(b)) -/
namespace Z
open PySem PySem.Spec PyProof.Rows L2
def fLRg2 (f g : Fn Dv) : Fn (List Dv) := fun env s => (f env s).bind fun x s1 => (g env s1).bind fun y s2 => match x, y with
  | .int i, .int j => Rs.iff (inRng i && inRng j && decide ((j - i).toNat ≤ 16777216)) (.ok (rngD i (j - i).toNat) s2)
  | _, _ => .bad
def fLRg1 (g : Fn Dv) : Fn (List Dv) := fun env s => (g env s).bind fun y s2 => match y with
  | .int j => Rs.iff (inRng j && decide (j.toNat ≤ 16777216)) (.ok (rngD 0 j.toNat) s2)
  | _ => .bad
section
variable {G : Gz} {bs : List Str} {k : Nat} {X : Cx} {N : List Str} {nm : List (Str × NameKind)} {ow : Str → Bool} {a b : Expr} {fa fb : Fn Dv} {p p2 pos pos2 : Pos}
end
end Z

/-! # == where a side may raise -/
namespace Z
open PySem PySem.Spec PyProof.Rows L2
section
variable {G : Gz} {bs : List Str} {k : Nat} {X : Cx} {N : List Str} {nm : List (Str × NameKind)} {ow : Str → Bool} {W : WX} {a b : Expr} {fa fb : Fn Dv} {pos : Pos}
end
end Z

/-! # l.index(x) of data of any depth -/
namespace Z
open PySem PySem.Spec PyProof.Rows L2
def gIndexD (x : Dv) (xs : List Dv) (s : Sto) : Rs Dv := match xs with
  | [y] => match pyOf s x, pyOf s y with
    | some (.list ps), some p => Rs.iff (SeqAt.shaped p && SeqAt.shaped (.list ps)) (match ps.findIdx? (fun z => PyData.eqv z p) with | some j => .ok (.int (j : Nat)) s | none => .bad)
    | _, _ => .bad
  | _ => .bad
section
variable {G : Gz} {bs : List Str} {k : Nat} {X : Cx} {N : List Str} {nm : List (Str × NameKind)} {ow : Str → Bool} {o e : Expr} {fo : Fn Dv} {fs : Fn (List Dv)} {apos cpos : Pos}
end
end Z

/-! # range(a, b, c) with a step ahead -/
namespace Z
open PySem PySem.Spec PyProof.Rows L2
def rngUp (lo c : Int) (n : Nat) : List Dv := (List.range n).map fun (i : Nat) => Dv.int (lo + (i : Int) * c)
def rgU (i j c : Int) : Bool := decide (0 ≤ i) && decide (i ≤ 1000000000) && decide (0 ≤ j) && decide (j ≤ 1000000000) && decide (0 < c) && decide (c ≤ 1000000000)
def rgN3 (i j c : Int) : Nat := if i < j then ((j - i - 1) / c + 1).toNat else 0
def fRngU (f : Fn (List Dv)) : Fn Src := fun env s => (f env s).bind fun ds s1 => match ds with | [.int i, .int j, .int c] => Rs.iff (rgU i j c) (.ok (rngUp i c (rgN3 i j c), noChk) s1) | _ => .bad
section
variable {G : Gz} {bs : List Str} {k : Nat} {X : Cx} {N : List Str} {nm : List (Str × NameKind)} {ow : Str → Bool} {q : Bool} {tg : Expr} {fs : Fn (List Dv)} {p pos : Pos}
end
end Z

/-! # t.count(x), t a tuple of flat things -/
namespace Z
open PySem PySem.Spec PyProof.Rows L2
section
variable {X : Cx}
def rCountT (K : PySem.W.Frag) : V → List V → Hp → VK → Prop := fun x xs H Q => ∃ (a : Addr) (ys : List V) (y : V), x = V.ref a ∧ xs = [y] ∧ SqT K H a ys ∧ flatV y = true ∧ ys.all flatV = true ∧ Q (.int ((ys.countP fun z => eqV z y : Nat) : Int)) H
end
def gCountT (x : Dv) (xs : List Dv) (s : Sto) : Rs Dv := match x, xs with
  | .tup ds, [y] => match fV y, ds.mapM fV with
    | some u, some us => .ok (.int ((us.countP fun z => eqV z u : Nat) : Int)) s
    | _, _ => .bad
  | _, _ => .bad
section
variable {X : Cx} {o e : Expr} {fo : Fn Dv} {fs : Fn (List Dv)} {apos cpos : Pos}
end
end Z

/-! # t[:-3:-1] of a tuple of two or more -/
namespace HT
open PySem PySem.Spec PyProof.Rows
section
variable {prog : Program} {w : World} {A : Around} {E : Value → Shared → Prop} {s : Shared}
end
end HT
namespace Z
open PySem PySem.Spec PyProof.Rows L2
def tTailT (K : PySem.W.Frag) (te : TE) : TE := fun σ H Q => te σ H fun x H1 => ∃ a xs, x = .ref a ∧ SqT K H1 a xs ∧ 2 ≤ xs.length ∧ ∀ p o, H1 p = none → o.dict = none → Q (.ref p) (upd H1 p (.frz o (.tup (xs.reverse.take 2))))
section
variable {X : Cx}
end
def fTailT (f : Fn Dv) : Fn Dv := fun env s => (f env s).bind fun x s1 => match x with | .tup ds => Rs.iff (decide (2 ≤ ds.length)) (.ok (.tup (ds.reverse.take 2)) s1) | _ => .bad
section
variable {X : Cx} {e : Expr} {fa : Fn Dv} {pos : Pos}
end
end Z

/-! # tuple * int, of any tuple -/
namespace L2
open PySem PySem.Spec PyProof.Rows
end L2
namespace Z
open PySem PySem.Spec PyProof.Rows L2
def rMulV (K : PySem.W.Frag) : R2 := fun x y H Q => ∃ l k, x = .ref l ∧ y = .int k ∧ SqT K H l [] ∧ 0 ≤ k ∧ k ≤ 1000 ∧ Q x H
def rTimesV (K : PySem.W.Frag) : R2 := fun x y H Q => rTimesN K x y H Q ∨ rMulV K x y H Q
def gTimesV (x y : Dv) (s : Sto) : Rs Dv := match x, y with
  | .tup [], .int k => Rs.iff (decide (0 ≤ k) && decide (k ≤ 1000)) (.ok (.tup []) s)
  | x, y => gTimesN x y s
section
variable {X : Cx} {a b : Expr} {fa fb : Fn Dv} {pos : Pos}
end
end Z

/-! # [n for n in d if d[n] == b], d a dict of texts; dict(d), a copy -/
namespace Z
open PySem PySem.Spec PyProof.Rows L2
def dkV (ks0 : List (Key × V)) (b : Str) : List (Key × V) → Option (List V)
  | [] => some []
  | p :: r => match valV ks0 p.1, dkV ks0 b r with
    | some (.str z), some vs => some (if z == b then kV p.1 :: vs else vs)
    | _, _ => none
def tDk (jd jn jb : Nat) : TE := tLockE (tLc (iKeys (tVar jd)) (gName jn) (tTest (tOp rEq (tDGet (tVar jd) (tVar jn)) (tVar jb))) (tVar jn) [jn])
theorem dk_run {jd jn jb : Nat} {b : Str} {σ : L2.St} {H : Hp} {Q : VK} {a : Addr} {ks : List (Key × V)} {vs : List V} (hj : jd ≠ jn) (hjb : jb ≠ jn) (hl : jn < σ.length) (hσ : σ[jd]? = some (some (.ref a))) (hb : σ[jb]? = some (some (.str b))) (ha : H a = some (.dK ks)) (hz : ks.length < 16777216)
    (hv : dkV ks b ks = some vs) (hQ : ∀ D, H D = none → Q (.ref D) (upd H D (.lst vs))) : tDk jd jn jb σ H Q := by
  refine ⟨a, _, ha, trivial, fun od => ?_⟩
  refine ⟨.ref a, hσ, a, od, rfl, .inl ⟨ks, upd_same, fun D hD => ?_⟩⟩
  have hDa : D ≠ a := fun e => by rw [e, upd_same] at hD; cases hD
  have hD0 : H D = none := by rw [upd_ne hDa] at hD; exact hD
  have uu : ∀ (x y : HO), upd (upd (upd H a (.frz od (.dK ks))) D x) D y = upd (upd H a (.frz od (.dK ks))) D y := fun x y => by
    funext c
    by_cases hc : c = D
    · rw [hc, upd_same, upd_same]
    · rw [upd_ne hc, upd_ne hc, upd_ne hc]
  refine ⟨fun i m H3 => m = ks.length - i ∧ i ≤ ks.length ∧ ∃ (acc rest : List V), H3 = upd (upd H a (.frz od (.dK ks))) D (.lst acc) ∧ acc.length ≤ i ∧ dkV ks b (ks.drop i) = some rest ∧ acc ++ rest = vs,
    ⟨_, rfl, Nat.zero_le _, [], vs, rfl, Nat.le_refl _, hv, rfl⟩, fun i m H3 w => ?_⟩
  obtain ⟨rfl, hi, acc, rest, rfl, hal, hg, hr⟩ := w
  have hfa : upd (upd H a (.frz od (.dK ks))) D (.lst acc) a = some (.frz od (.dK ks)) := by rw [upd_ne (Ne.symm hDa), upd_same]
  by_cases hlt : i < ks.length
  · right
    have hdr : ks.drop i = ks[i] :: ks.drop (i + 1) := List.drop_eq_getElem_cons hlt
    rw [hdr] at hg
    refine ⟨⟨hfa, hlt⟩, fun H' => ∃ (acc rest : List V), H' = upd (upd H a (.frz od (.dK ks))) D (.lst acc) ∧ acc.length ≤ i + 1 ∧ dkV ks b (ks.drop (i + 1)) = some rest ∧ acc ++ rest = vs, fun H' hN => ⟨_, by omega, rfl, hlt, hN⟩, fun x H' hy => ?_⟩
    obtain ⟨rfl, k, v, hk, rfl⟩ := hy
    have hki : ks[i] = (k, v) := by
      rw [List.getElem?_eq_getElem hlt] at hk
      exact Option.some.inj hk
    rw [hki] at hg
    have hw : (wipe σ [jn]).set jn (some (kV k)) = σ.set jn (some (kV k)) := by
      show (σ.set jn none).set jn _ = _
      rw [List.set_set]
    show wipe ((wipe σ [jn]).set jn (some (kV k))) [jn] = wipe σ [jn] ∧ _
    rw [hw]
    refine ⟨?_, ?_⟩
    · show (σ.set jn (some (kV k))).set jn none = σ.set jn none
      rw [List.set_set]
    · unfold dkV at hg
      split at hg
      · rename_i z ys e1 e2
        refine ⟨.ref a, ?_, kV k, ?_, a, .str z, rfl, .inl ⟨ks, k, .inr ⟨od, hfa⟩, rfl, e1.symm⟩, .str b, ?_, rfl, _, rfl, ?_⟩
        · rw [List.getElem?_set_ne (Ne.symm hj)]; exact hσ
        · rw [List.getElem?_set_self hl]
        · rw [List.getElem?_set_ne (Ne.symm hjb)]; exact hb
        · have e : (decide (V.str z = V.str b)) = (z == b) := by
            rw [Bool.eq_iff_iff]; simp
          rw [e]
          cases hzb : z == b with
          | true =>
            rw [hzb] at hg
            cases hg
            show (if (true : Bool) = true then _ else _ : Prop)
            rw [if_pos rfl]
            refine ⟨kV k, ?_, acc, upd_same, ?_, acc ++ [kV k], ys, uu _ _, ?_, e2, ?_⟩
            · rw [List.getElem?_set_self hl]
            · rw [sizeLine_eq]; omega
            · rw [List.length_append, List.length_singleton]; omega
            · rw [← hr, List.append_assoc]; rfl
          | false =>
            rw [hzb] at hg
            cases hg
            show (if (false : Bool) = true then _ else _ : Prop)
            rw [if_neg Bool.false_ne_true]
            exact ⟨acc, _, rfl, by omega, e2, hr⟩
      · cases hg
  · left
    have hi2 : i = ks.length := by omega
    rw [List.drop_eq_nil_of_le (by omega)] at hg
    cases hg
    rw [List.append_nil] at hr
    subst hr
    refine ⟨⟨hfa, by omega⟩, hfa, ?_⟩
    have e : upd (upd (upd H a (.frz od (.dK ks))) D (.lst acc)) a (.dK ks) = upd H D (.lst acc) := by
      funext c
      by_cases hc : c = a
      · rw [hc, upd_same, upd_ne (Ne.symm hDa), ha]
      · rw [upd_ne hc]
        by_cases hd : c = D
        · rw [hd, upd_same, upd_same]
        · rw [upd_ne hd, upd_ne hc, upd_ne hd]
    rw [e]
    exact hQ D hD0
/-! ### .. as a reading -/
def kD : Key → Dv
  | .inl i => .int i
  | .inr z => .str z
def dkD (kvs0 : List (Key × Dv)) (b : Str) : List (Key × Dv) → Option (List Dv)
  | [] => some []
  | p :: r => match lookK kvs0 p.1, dkD kvs0 b r with
    | some (.str z), some vs => some (if z == b then kD p.1 :: vs else vs)
    | _, _ => none
theorem dk_rel {K : PySem.W.Frag} {B : Lo} {H : Hp} {kvs0 : List (Key × Dv)} {ks0 : List (Key × V)} (h0 : Paired (fun (p : Key × Dv) (q : Key × V) => p.1 = q.1 ∧ Rp K B H p.2 q.2) kvs0 ks0) {b : Str} :
    ∀ {kvs : List (Key × Dv)} {ks : List (Key × V)} {ds : List Dv}, Paired (fun (p : Key × Dv) (q : Key × V) => p.1 = q.1 ∧ Rp K B H p.2 q.2) kvs ks → dkD kvs0 b kvs = some ds → ∃ vs, dkV ks0 b ks = some vs ∧ Rps K B H ds vs
  | _, _, ds, .nil, h => by
    cases h
    exact ⟨[], rfl, .nil⟩
  | (k1, d1) :: r, (k2, v2) :: _, ds, .cons ⟨e, _⟩ t, h => by
    have e : k1 = k2 := e
    subst e
    unfold dkD at h
    unfold dkV
    split at h
    · rename_i z ys e1 e2
      cases h
      obtain ⟨v, f1, f2⟩ := look_rel h0 e1
      obtain ⟨vs, g1, g2⟩ := dk_rel h0 t e2
      cases f2
      have f1 : valV ks0 k1 = some (.str z) := f1
      rw [show valV ks0 (k1, v2).1 = some (.str z) from f1, g1]
      refine ⟨_, rfl, ?_⟩
      cases z == b with
      | true =>
        refine .cons ?_ g2
        cases k1 with
        | inl i => exact .int i
        | inr z => exact .str z
      | false => exact g2
    · cases h
def fDKe (jd jn jb : Nat) : Fn (List Dv) := fun env s => match env[jd]?, env[jb]? with
  | some (some (.loc n)), some (some (.str b)) => match s[n]? with
    | some (.dk kvs) => if jn < env.length ∧ kvs.length < 16777216 then (match dkD kvs b kvs with | some ds => .ok ds s | none => .bad) else .bad
    | _ => .bad
  | _, _ => .bad
theorem dk_to {K : PySem.W.Frag} {jd jn jb : Nat} (hj : jd ≠ jn) (hjb : jb ≠ jn) : ∀ σ H Q, tOfL K (fDKe jd jn jb) σ H Q → tDk jd jn jb σ H Q := fun σ H Q h => by
  obtain ⟨B, env, s, ds, s', hE, hS, hf, hQ⟩ := h
  unfold fDKe at hf
  split at hf
  · rename_i n b e1 e0
    split at hf
    · rename_i kvs e2
      split at hf
      · rename_i hz
        split at hf
        · rename_i ds2 e4
          cases hf
          obtain ⟨v, ev, rv⟩ := hE.2 jd _ e1
          obtain ⟨u, eu, ru⟩ := hE.2 jb _ e0
          cases ru
          cases rv with
          | loc ha =>
            rename_i a
            obtain ⟨ks, h1, h2⟩ := hS.obs n _ _ ha e2
            obtain ⟨vs, g1, g2⟩ := dk_rel h2 h2 e4
            refine dk_run hj hjb (by rw [← hE.1]; exact hz.1) ev eu h1 (by rw [← Paired.length h2]; exact hz.2) g1 fun D hD => ?_
            have nD : D ∉ B.hid := hS.freeH hD
            exact hQ B (upd H D (.lst vs)) D vs (Ext.aside hD) rfl (hS.aside hD) nD hD upd_same (g2.mono (Mo.aside hD))
        · cases hf
      · cases hf
    · cases hf
  · cases hf
section
variable {G : Gz} {bs : List Str} {k : Nat} {X : Cx} {N : List Str} {nm : List (Str × NameKind)} {ow : Str → Bool} {d n b : Str} {jd jn jb : Nat} {p1 p2 p3 p4 p5 p6 p7 p8 pos : Pos} {scope : Scope}
end
theorem asg_lock {t : TE} {i : Nat} {D : Ends} {σ : L2.St} {H : Hp} (h : tAsg (tLockE t) (gName i) D σ H) : tLock (tAsg t (gName i)) D σ H := by
  obtain ⟨d, u, h1, h2, h3⟩ := h
  exact ⟨d, u, h1, h2, fun od => h3 od⟩
section
variable {G : Gz} {bs : List Str} {k : Nat} {X : Cx} {N : List Str} {nm : List (Str × NameKind)} {ow : Str → Bool} {d n b y : Str} {i jd jn jb : Nat} {p1 p2 p3 p4 p5 p6 p7 p8 py spos pos : Pos} {scope : Scope}
theorem z_setDke (c : Cz G bs k X N nm ow) (hj : jd ≠ jn := by decide) (hjb : jb ≠ jn := by decide) (ok : blkZ N nm scope [(n, jn)] = true := by decide +kernel) (hk : scope.kind = .function := by rfl) (h1 : vOk N nm jd d = true := by decide +kernel) (h2 : vOk N (relN nm scope.names) jd d = true := by decide +kernel) (h3 : vOk N (relN nm scope.names) jn n = true := by decide +kernel) (h4 : sOk N (relN nm scope.names) (ownN scope.names) jn n = true := by decide +kernel) (h5 : vOk N (relN nm scope.names) jb b = true := by decide +kernel)
    (hd : (d == ("__debug__" : Str)) = false := by decide +kernel) (hcd : (d == ("__classdict__" : Str)) = false := by decide +kernel) (hn : (n == ("__debug__" : Str)) = false := by decide +kernel) (hcn : (n == ("__classdict__" : Str)) = false := by decide +kernel) (hb : (b == ("__debug__" : Str)) = false := by decide +kernel) (hcb : (b == ("__classdict__" : Str)) = false := by decide +kernel)
    (hy : decide (N[i]? = some y) = true := by decide +kernel) (hyl : (nm.lookup y == some .local) = true := by decide +kernel) (hsw : swapsWith (.ListComp (.Name n p1) [⟨.Name n p4, .Name d p5, [.Compare (.Subscript (.Name d p2) (.Name n p6) p3) [.Eq] [.Name b p7] p8], 0⟩] scope pos) (some (.Name y py)) spos.line (dE nm) = pure true := by rfl)
    (hs : ∀ x, foldedSetIterable (.Name d p5) X.env x = pure x := by intro _; rfl) :
    ZS X (.Assign [.Name y py] (.ListComp (.Name n p1) [⟨.Name n p4, .Name d p5, [.Compare (.Subscript (.Name d p2) (.Name n p6) p3) [.Eq] [.Name b p7] p8], 0⟩] scope pos) spos) (fSet i (fVal (fDKe jd jn jb))) := by
  have nd : X.N.Nodup := by rw [c.hN]; exact c.nd
  obtain ⟨o1, o2⟩ := c.vis h1
  refine ps_mono (ps_lock (ps_setLc (own := [(n, jn)]) (tt := tTest (tOp rEq (tDGet (tVar jd) (tVar jn)) (tVar jb))) c.calm nd (by rw [c.hN]; exact of_decide_eq_true hy) (lcl c hyl) (c.sW.trans hsw) (pi_keys (pe_var o1 o2 hd hcd)) (c.blkOk ok) (fun s H C cl fp => ?_) (fun s H C cl fp => ?_) (fun s H C cl fp => ?_) hs)) (fun D σ H q => asg_lock (set_to (val_to (dk_to hj hjb)) D σ H q))
  · have cb := c.blk hk s H C cl fp
    obtain ⟨q1, q2, q3⟩ := cb.loc h4
    exact pg_name nd q1 q2 q3
  · have cb := c.blk hk s H C cl fp
    obtain ⟨r1, r2⟩ := cb.vis h2
    obtain ⟨q1, q2⟩ := cb.vis h5
    obtain ⟨q3, q4⟩ := cb.vis h3
    exact pts_one (pt_cmpR op_eq (pe_dget (hu_of cb.rm) (pe_var r1 r2 hd hcd) (pe_var q3 q4 hn hcn) fun _ _ => rfl) (pe_var q1 q2 hb hcb) (nomark _))
  · have cb := c.blk hk s H C cl fp
    obtain ⟨q3, q4⟩ := cb.vis h3
    exact pe_var q3 q4 hn hcn
end
/-! ### dict(d), a copy -/
def gDictC (xs : List Dv) (s : Sto) : Rs Dv := match xs with
  | [.loc n] => match s[n]? with | some (.dk kvs) => .ok (.loc s.length) (s ++ [.dk kvs]) | _ => .bad
  | _ => .bad
theorem cz_dictC {K : PySem.W.Frag} : CallZ K (fun xs H Q => ∃ (a : Addr) (kvs : List (Key × V)), xs = [.ref a] ∧ Rd H a (.dK kvs) ∧ ∀ p, H p = none → Q (.ref p) (upd H p (.dK kvs))) gDictC := by
  intro B H s xs vs d s' Q S r h q
  unfold gDictC at h
  split at h
  · split at h
    · rename_i n kvs e1
      cases h
      cases r with
      | cons r1 rr =>
        cases rr
        cases r1 with
        | loc ha =>
          obtain ⟨ks, h1, h4⟩ := S.obs _ _ _ ha e1
          refine ⟨_, ks, rfl, .inl h1, fun p hp => ?_⟩
          have a1 := Ext.aside (B := B) (o := .dK ks) hp
          have S2 := S.aside (o := .dK ks) hp
          refine q ⟨B.locs ++ [p], B.hid⟩ _ _ (a1.adopt hp fun _ h => h) rfl (S2.adopt (o := .dk kvs) (S.freeH hp) ⟨_, upd_same, Paired.mapP h4 fun p q z => ⟨z.1, z.2.mono a1.mo⟩⟩) (.loc ?_)
          rw [← S.len]
          show (B.locs ++ [p])[B.locs.length]? = some p
          rw [List.getElem?_append_right (Nat.le_refl _)]
          simp
    · cases h
  · cases h
section
variable {G : Gz} {bs : List Str} {k : Nat} {X : Cx} {N : List Str} {nm : List (Str × NameKind)} {ow : Str → Bool} {e : Expr} {fs : Fn (List Dv)} {pos p : Pos}
theorem z_dictC (c : Cz G bs k X N nm ow) (ha : ZA X [e] fs) (hb : bOk bs nm "dict" = true := by decide +kernel) (he : starEach [e] X.env = (false, eval e X.env) :: starEach [] X.env := by rfl) : ZE X (.Call (.Name "dict" p) [e] [] pos) (fCall gDictC fs) :=
  z_callTy c call_dictD cz_dictC ha (by decide +kernel) hb (by decide +kernel) (by decide +kernel) he rfl
end
end Z

namespace Z
open PySem PySem.Spec PyProof.Rows L2

/-! ### plain laws: what a reading ends in -/
/-- an end, or an error; E: what is asked of the error -/
def OkE {α : Type} (Ex : Dv → Sto → Prop) (r : Rs α) (P : α → Sto → Prop) : Prop := match r with
  | .ok a s => P a s
  | .exc e s => Ex e s
  | .bad => False
/-- no error -/
def nX : Dv → Sto → Prop := fun _ _ => False
abbrev Ok {α : Type} (r : Rs α) (P : α → Sto → Prop) : Prop := OkE nX r P
theorem OkE.get {α : Type} {r : Rs α} {P : α → Sto → Prop} (h : OkE nX r P) : ∃ a s, r = .ok a s ∧ P a s := by
  cases r with
  | ok a s => exact ⟨a, s, rfl, h⟩
  | _ => exact False.elim h
theorem Ok.get {α : Type} {r : Rs α} {P : α → Sto → Prop} (h : Ok r P) : ∃ a s, r = .ok a s ∧ P a s := OkE.get h
theorem OkE.of {α : Type} {E : Dv → Sto → Prop} {r : Rs α} {P : α → Sto → Prop} {a : α} {s : Sto} (h : r = .ok a s) (p : P a s) : OkE E r P := by rw [h]; exact p
theorem Ok.of {α : Type} {r : Rs α} {P : α → Sto → Prop} {a : α} {s : Sto} (h : r = .ok a s) (p : P a s) : Ok r P := OkE.of h p
theorem OkE.mono {α : Type} {E : Dv → Sto → Prop} {r : Rs α} {P Q : α → Sto → Prop} (h : OkE E r P) (hh : ∀ a s, P a s → Q a s) : OkE E r Q := by
  cases r with
  | ok a s => exact hh _ _ h
  | _ => exact h
theorem OkE.mono2 {α : Type} {E F : Dv → Sto → Prop} {r : Rs α} {P Q : α → Sto → Prop} (h : OkE E r P) (hh : ∀ a s, P a s → Q a s) (he : ∀ e s, E e s → F e s) : OkE F r Q := by
  cases r with
  | ok a s => exact hh _ _ h
  | exc e s => exact he _ _ h
  | bad => exact h
theorem Ok.mono {α : Type} {r : Rs α} {P Q : α → Sto → Prop} (h : Ok r P) (hh : ∀ a s, P a s → Q a s) : Ok r Q := OkE.mono h hh
/-- what raises nothing, where an error is asked of, too -/
theorem OkE.up {α : Type} {E : Dv → Sto → Prop} {r : Rs α} {P : α → Sto → Prop} (h : OkE nX r P) : OkE E r P := h.mono2 (fun _ _ h => h) fun _ _ h => False.elim h
variable {Ex : Dv → Sto → Prop}
section
variable {α β : Type} {a : α} {s : Sto} {P : α → Sto → Prop} {Q : β → Sto → Prop} {R : Ct → Sto → Prop} {T : Dv → Sto → Prop} {L : List Dv → Sto → Prop} {B : Bool → Sto → Prop} {env : En}
theorem Y1 : OkE Ex (.ok a s) P ↔ P a s := Iff.rfl
theorem ok_bind {r : Rs α} {f : α → Sto → Rs β} : OkE Ex (r.bind f) Q ↔ OkE Ex r (fun a s => OkE Ex (f a s) Q) := by cases r <;> exact Iff.rfl
theorem ok_iff {c : Bool} {r : Rs α} : OkE Ex (Rs.iff c r) P ↔ c = true ∧ OkE Ex r P := by
  unfold Rs.iff
  split
  · rename_i h; exact ⟨fun x => ⟨h, x⟩, fun x => x.2⟩
  · rename_i h; exact ⟨fun x => False.elim x, fun x => absurd x.1 h⟩
def kDrop (env : En) (R : Ct → Sto → Prop) : Dv → Sto → Prop := fun d s1 => R (.next env) s1
theorem Qf {env : En} {R : Ct → Sto → Prop} {d : Dv} {s1 : Sto} : kDrop env R d s1 = (R (.next env) s1) := rfl
def kRet (R : Ct → Sto → Prop) : Dv → Sto → Prop := fun d s1 => R (.ret d) s1
theorem Qt {R : Ct → Sto → Prop} {d : Dv} {s1 : Sto} : kRet R d s1 = (R (.ret d) s1) := rfl
def kSet (i : Nat) (env : En) (R : Ct → Sto → Prop) : Dv → Sto → Prop := fun d s1 => R (.next (env.set i (some d))) s1
theorem Qu {i : Nat} {env : En} {R : Ct → Sto → Prop} {d : Dv} {s1 : Sto} : kSet i env R d s1 = (R (.next (env.set i (some d))) s1) := rfl
def kCons2 (d : Dv) (L : List Dv → Sto → Prop) : List Dv → Sto → Prop := fun ds s2 => L (d :: ds) s2
theorem Qa {d : Dv} {L : List Dv → Sto → Prop} {ds : List Dv} {s2 : Sto} : kCons2 d L ds s2 = (L (d :: ds) s2) := rfl
def kCons (Ex : Dv → Sto → Prop) (g : Fn (List Dv)) (env : En) (L : List Dv → Sto → Prop) : Dv → Sto → Prop := fun d s1 => OkE Ex (g env s1) (kCons2 d L)
theorem Qg {g : Fn (List Dv)} {env : En} {L : List Dv → Sto → Prop} {d : Dv} {s1 : Sto} : kCons Ex g env L d s1 = (OkE Ex (g env s1) (kCons2 d L)) := rfl
def kTup (T : Dv → Sto → Prop) : List Dv → Sto → Prop := fun ds s1 => decide (ds.length ≤ 16777216) = true ∧ T (.tup ds) s1
theorem Qv {T : Dv → Sto → Prop} {ds : List Dv} {s1 : Sto} : kTup T ds s1 = (decide (ds.length ≤ 16777216) = true ∧ T (.tup ds) s1) := rfl
def kLst (L : List Dv → Sto → Prop) : List Dv → Sto → Prop := fun ds s1 => decide (ds.length ≤ 16777216) = true ∧ L ds s1
theorem Qw {L : List Dv → Sto → Prop} {ds : List Dv} {s1 : Sto} : kLst L ds s1 = (decide (ds.length ≤ 16777216) = true ∧ L ds s1) := rfl
def kVal (T : Dv → Sto → Prop) : List Dv → Sto → Prop := fun ds s1 => T (.ls ds) s1
theorem Qx {T : Dv → Sto → Prop} {ds : List Dv} {s1 : Sto} : kVal T ds s1 = (T (.ls ds) s1) := rfl
def kNew (T : Dv → Sto → Prop) : List Dv → Sto → Prop := fun ds s1 => T (.loc s1.length) (s1 ++ [.lst ds])
theorem Qy {T : Dv → Sto → Prop} {ds : List Dv} {s1 : Sto} : kNew T ds s1 = (T (.loc s1.length) (s1 ++ [.lst ds])) := rfl
def kBin2 (Ex : Dv → Sto → Prop) (g : Dv → Dv → Sto → Rs Dv) (x : Dv) (T : Dv → Sto → Prop) : Dv → Sto → Prop := fun y s2 => OkE Ex (g x y s2) T
theorem Qh {g : Dv → Dv → Sto → Rs Dv} {x : Dv} {T : Dv → Sto → Prop} {y : Dv} {s2 : Sto} : kBin2 Ex g x T y s2 = (OkE Ex (g x y s2) T) := rfl
def kBin (Ex : Dv → Sto → Prop) (g : Dv → Dv → Sto → Rs Dv) (f2 : Fn Dv) (env : En) (T : Dv → Sto → Prop) : Dv → Sto → Prop := fun x s1 => OkE Ex (f2 env s1) (kBin2 Ex g x T)
theorem Qz {g : Dv → Dv → Sto → Rs Dv} {f2 : Fn Dv} {env : En} {T : Dv → Sto → Prop} {x : Dv} {s1 : Sto} : kBin Ex g f2 env T x s1 = (OkE Ex (f2 env s1) (kBin2 Ex g x T)) := rfl
def kUn (Ex : Dv → Sto → Prop) (g : Dv → Sto → Rs Dv) (T : Dv → Sto → Prop) : Dv → Sto → Prop := fun x s1 => OkE Ex (g x s1) T
theorem Jy {g : Dv → Sto → Rs Dv} {T : Dv → Sto → Prop} {x : Dv} {s1 : Sto} : kUn Ex g T x s1 = (OkE Ex (g x s1) T) := rfl
def kCall (Ex : Dv → Sto → Prop) (φ : Phi) (T : Dv → Sto → Prop) : List Dv → Sto → Prop := fun ds s1 => OkE Ex (φ ds s1) T
theorem Qi {φ : Phi} {T : Dv → Sto → Prop} {ds : List Dv} {s1 : Sto} : kCall Ex φ T ds s1 = (OkE Ex (φ ds s1) T) := rfl
def kCallL (Ex : Dv → Sto → Prop) (φ : List Dv → Sto → Rs (List Dv)) (L : List Dv → Sto → Prop) : List Dv → Sto → Prop := fun ds s1 => OkE Ex (φ ds s1) L
theorem Qb {φ : List Dv → Sto → Rs (List Dv)} {L : List Dv → Sto → Prop} {ds : List Dv} {s1 : Sto} : kCallL Ex φ L ds s1 = (OkE Ex (φ ds s1) L) := rfl
def kNotT (B : Bool → Sto → Prop) : Bool → Sto → Prop := fun b s1 => B (!b) s1
theorem Qj {B : Bool → Sto → Prop} {b : Bool} {s1 : Sto} : kNotT B b s1 = (B (!b) s1) := rfl
def kAndT (Ex : Dv → Sto → Prop) (g : Fn Bool) (env : En) (B : Bool → Sto → Prop) : Bool → Sto → Prop := fun b s1 => if b = true then OkE Ex (g env s1) B else B false s1
theorem Qk {g : Fn Bool} {env : En} {B : Bool → Sto → Prop} {b : Bool} {s1 : Sto} : kAndT Ex g env B b s1 = (if b = true then OkE Ex (g env s1) B else B false s1) := rfl
def kOrT (Ex : Dv → Sto → Prop) (g : Fn Bool) (env : En) (B : Bool → Sto → Prop) : Bool → Sto → Prop := fun b s1 => if b = true then B true s1 else OkE Ex (g env s1) B
theorem Q0 {g : Fn Bool} {env : En} {B : Bool → Sto → Prop} {b : Bool} {s1 : Sto} : kOrT Ex g env B b s1 = (if b = true then B true s1 else OkE Ex (g env s1) B) := rfl
def kIf (Ex : Dv → Sto → Prop) (f g : Fn Dv) (env : En) (T : Dv → Sto → Prop) : Bool → Sto → Prop := fun b s1 => if b = true then OkE Ex (f env s1) T else OkE Ex (g env s1) T
theorem Jz {f g : Fn Dv} {env : En} {T : Dv → Sto → Prop} {b : Bool} {s1 : Sto} : kIf Ex f g env T b s1 = (if b = true then OkE Ex (f env s1) T else OkE Ex (g env s1) T) := rfl
def kIfS (Ex : Dv → Sto → Prop) (f g : Fn Ct) (env : En) (R : Ct → Sto → Prop) : Bool → Sto → Prop := fun b s1 => if b = true then OkE Ex (f env s1) R else OkE Ex (g env s1) R
theorem Q1 {f g : Fn Ct} {env : En} {R : Ct → Sto → Prop} {b : Bool} {s1 : Sto} : kIfS Ex f g env R b s1 = (if b = true then OkE Ex (f env s1) R else OkE Ex (g env s1) R) := rfl
def kAnd (Ex : Dv → Sto → Prop) (g : Fn Dv) (env : En) (T : Dv → Sto → Prop) : Bool → Sto → Prop := fun b s1 => if b = true then OkE Ex (g env s1) T else T (.bl false) s1
theorem Q2 {g : Fn Dv} {env : En} {T : Dv → Sto → Prop} {b : Bool} {s1 : Sto} : kAnd Ex g env T b s1 = (if b = true then OkE Ex (g env s1) T else T (.bl false) s1) := rfl
def kOr (Ex : Dv → Sto → Prop) (g : Fn Dv) (env : En) (T : Dv → Sto → Prop) : Bool → Sto → Prop := fun b s1 => if b = true then T (.bl true) s1 else OkE Ex (g env s1) T
theorem J0 {g : Fn Dv} {env : En} {T : Dv → Sto → Prop} {b : Bool} {s1 : Sto} : kOr Ex g env T b s1 = (if b = true then T (.bl true) s1 else OkE Ex (g env s1) T) := rfl
def kNot (T : Dv → Sto → Prop) : Bool → Sto → Prop := fun b s1 => T (.bl (!b)) s1
theorem Q3 {T : Dv → Sto → Prop} {b : Bool} {s1 : Sto} : kNot T b s1 = (T (.bl (!b)) s1) := rfl
def kMt2 (Ex : Dv → Sto → Prop) (g : Dv → List Dv → Sto → Rs Dv) (x : Dv) (T : Dv → Sto → Prop) : List Dv → Sto → Prop := fun xs s2 => OkE Ex (g x xs s2) T
theorem Q4 {g : Dv → List Dv → Sto → Rs Dv} {x : Dv} {T : Dv → Sto → Prop} {xs : List Dv} {s2 : Sto} : kMt2 Ex g x T xs s2 = (OkE Ex (g x xs s2) T) := rfl
def kMt (Ex : Dv → Sto → Prop) (ty : Dv → Sto → Bool) (g : Dv → List Dv → Sto → Rs Dv) (fs : Fn (List Dv)) (env : En) (T : Dv → Sto → Prop) : Dv → Sto → Prop := fun x s1 => ty x s1 = true ∧ OkE Ex (fs env s1) (kMt2 Ex g x T)
theorem J1 {ty : Dv → Sto → Bool} {g : Dv → List Dv → Sto → Rs Dv} {fs : Fn (List Dv)} {env : En} {T : Dv → Sto → Prop} {x : Dv} {s1 : Sto} : kMt Ex ty g fs env T x s1 = (ty x s1 = true ∧ OkE Ex (fs env s1) (kMt2 Ex g x T)) := rfl
def kPut4 (env : En) (R : Ct → Sto → Prop) : Unit → Sto → Prop := fun u s4 => R (.next env) s4
theorem Ql {env : En} {R : Ct → Sto → Prop} {u : Unit} {s4 : Sto} : kPut4 env R u s4 = (R (.next env) s4) := rfl
def kPut3 (Ex : Dv → Sto → Prop) (x d : Dv) (env : En) (R : Ct → Sto → Prop) : Dv → Sto → Prop := fun y s3 => OkE Ex (gPut x y d s3) (kPut4 env R)
theorem Qm {x d : Dv} {env : En} {R : Ct → Sto → Prop} {y : Dv} {s3 : Sto} : kPut3 Ex x d env R y s3 = (OkE Ex (gPut x y d s3) (kPut4 env R)) := rfl
def kPut2 (Ex : Dv → Sto → Prop) (fi : Fn Dv) (d : Dv) (env : En) (R : Ct → Sto → Prop) : Dv → Sto → Prop := fun x s2 => OkE Ex (fi env s2) (kPut3 Ex x d env R)
theorem Qn {fi : Fn Dv} {d : Dv} {env : En} {R : Ct → Sto → Prop} {x : Dv} {s2 : Sto} : kPut2 Ex fi d env R x s2 = (OkE Ex (fi env s2) (kPut3 Ex x d env R)) := rfl
def kPut (Ex : Dv → Sto → Prop) (fo fi : Fn Dv) (env : En) (R : Ct → Sto → Prop) : Dv → Sto → Prop := fun d s1 => OkE Ex (fo env s1) (kPut2 Ex fi d env R)
theorem Q5 {fo fi : Fn Dv} {env : En} {R : Ct → Sto → Prop} {d : Dv} {s1 : Sto} : kPut Ex fo fi env R d s1 = (OkE Ex (fo env s1) (kPut2 Ex fi d env R)) := rfl
def kExt2 (Ex : Dv → Sto → Prop) (x : Dv) (T : Dv → Sto → Prop) : List Dv → Sto → Prop := fun es s2 => OkE Ex (gExtend x [.ls es] s2) T
theorem Qo {x : Dv} {T : Dv → Sto → Prop} {es : List Dv} {s2 : Sto} : kExt2 Ex x T es s2 = (OkE Ex (gExtend x [.ls es] s2) T) := rfl
def kExt (Ex : Dv → Sto → Prop) (fl : Fn (List Dv)) (env : En) (T : Dv → Sto → Prop) : Dv → Sto → Prop := fun x s1 => isL x s1 = true ∧ OkE Ex (fl env s1) (kExt2 Ex x T)
theorem Q6 {fl : Fn (List Dv)} {env : En} {T : Dv → Sto → Prop} {x : Dv} {s1 : Sto} : kExt Ex fl env T x s1 = (isL x s1 = true ∧ OkE Ex (fl env s1) (kExt2 Ex x T)) := rfl
def kAsg2 (R : Ct → Sto → Prop) : En → Sto → Prop := fun env1 s2 => R (.next env1) s2
theorem Qp {R : Ct → Sto → Prop} {env1 : En} {s2 : Sto} : kAsg2 R env1 s2 = (R (.next env1) s2) := rfl
def kAsg (Ex : Dv → Sto → Prop) (g : Dv → Fn En) (env : En) (R : Ct → Sto → Prop) : Dv → Sto → Prop := fun d s1 => OkE Ex (g d env s1) (kAsg2 R)
theorem Q7 {g : Dv → Fn En} {env : En} {R : Ct → Sto → Prop} {d : Dv} {s1 : Sto} : kAsg Ex g env R d s1 = (OkE Ex (g d env s1) (kAsg2 R)) := rfl
def kFor (Ex : Dv → Sto → Prop) (g : Dv → Fn En) (b : Fn Ct) (env : En) (R : Ct → Sto → Prop) : Src → Sto → Prop := fun src s1 => OkE Ex (loopZ src.2 g b src.1 env s1) R
theorem Q8 {g : Dv → Fn En} {b : Fn Ct} {env : En} {R : Ct → Sto → Prop} {src : Src} {s1 : Sto} : kFor Ex g b env R src s1 = (OkE Ex (loopZ src.2 g b src.1 env s1) R) := rfl
def kLc (Ex : Dv → Sto → Prop) (own : List Nat) (g : Dv → Fn En) (tt : Fn Bool) (te : Fn Dv) (env : En) (L : List Dv → Sto → Prop) : Src → Sto → Prop := fun src s1 => decide (src.1.length < 16777216) = true ∧ OkE Ex (lcZ src.2 own g tt te src.1 env s1) L
theorem J2 {own : List Nat} {g : Dv → Fn En} {tt : Fn Bool} {te : Fn Dv} {env : En} {L : List Dv → Sto → Prop} {src : Src} {s1 : Sto} : kLc Ex own g tt te env L src s1 = (decide (src.1.length < 16777216) = true ∧ OkE Ex (lcZ src.2 own g tt te src.1 env s1) L) := rfl
def kSl3 (Ex : Dv → Sto → Prop) (x : Dv) (lo : Option Int) (T : Dv → Sto → Prop) : Option Int → Sto → Prop := fun hi s3 => OkE Ex (gSl x lo hi s3) T
theorem Q9 {x : Dv} {lo : Option Int} {T : Dv → Sto → Prop} {hi : Option Int} {s3 : Sto} : kSl3 Ex x lo T hi s3 = (OkE Ex (gSl x lo hi s3) T) := rfl
def kSl2 (Ex : Dv → Sto → Prop) (x : Dv) (h : Fn (Option Int)) (env : En) (T : Dv → Sto → Prop) : Option Int → Sto → Prop := fun lo s2 => OkE Ex (h env s2) (kSl3 Ex x lo T)
theorem Ja {x : Dv} {h : Fn (Option Int)} {env : En} {T : Dv → Sto → Prop} {lo : Option Int} {s2 : Sto} : kSl2 Ex x h env T lo s2 = (OkE Ex (h env s2) (kSl3 Ex x lo T)) := rfl
def kSl (Ex : Dv → Sto → Prop) (l h : Fn (Option Int)) (env : En) (T : Dv → Sto → Prop) : Dv → Sto → Prop := fun x s1 => OkE Ex (l env s1) (kSl2 Ex x h env T)
theorem J3 {l h : Fn (Option Int)} {env : En} {T : Dv → Sto → Prop} {x : Dv} {s1 : Sto} : kSl Ex l h env T x s1 = (OkE Ex (l env s1) (kSl2 Ex x h env T)) := rfl
def kGs (Ex : Dv → Sto → Prop) (h : List Dv → Fn En) (r : List Dv) (E : En → Sto → Prop) : En → Sto → Prop := fun env1 s1 => OkE Ex (h r env1 s1) E
theorem J4 {h : List Dv → Fn En} {r : List Dv} {E : En → Sto → Prop} {env1 : En} {s1 : Sto} : kGs Ex h r E env1 s1 = (OkE Ex (h r env1 s1) E) := rfl
/-- behind a statement -/
def sq (Ex : Dv → Sto → Prop) (g : Fn Ct) (R : Ct → Sto → Prop) : Ct → Sto → Prop
  | .next e, s => OkE Ex (g e s) R
  | c, s => R c s
theorem Jb {g : Fn Ct} : sq Ex g R (.next env) s = OkE Ex (g env s) R := rfl
theorem J6 {g : Fn Ct} {d : Dv} : sq Ex g R (.ret d) s = R (.ret d) s := rfl
theorem J7 {g : Fn Ct} : sq Ex g R (.brk env) s = R (.brk env) s := rfl
theorem Jc {g : Fn Ct} : sq Ex g R (.cont env) s = R (.cont env) s := rfl
theorem J5 {f g : Fn Ct} : OkE Ex (fSeq f g env s) R ↔ OkE Ex (f env s) (sq Ex g R) := by
  unfold fSeq
  rw [ok_bind]
  cases f env s with
  | ok c s1 => cases c <;> exact Iff.rfl
  | _ => exact Iff.rfl
theorem J8 : OkE Ex (fNop env s) R ↔ R (.next env) s := Iff.rfl
theorem J9 : OkE Ex (fBrk env s) R ↔ R (.brk env) s := Iff.rfl
theorem Jd : OkE Ex (fCont env s) R ↔ R (.cont env) s := Iff.rfl
theorem Je {f : Fn Dv} : OkE Ex (fDrop f env s) R ↔ OkE Ex (f env s) (kDrop env R) := ok_bind
theorem Ya {f : Fn Dv} : OkE Ex (fRet f env s) R ↔ OkE Ex (f env s) (kRet R) := ok_bind
theorem Jf : OkE Ex (fRetN env s) R ↔ R (.ret .non) s := Iff.rfl
theorem Yb {i : Nat} {f : Fn Dv} : OkE Ex (fSet i f env s) R ↔ OkE Ex (f env s) (kSet i env R) := ok_bind
theorem Jg {d : Dv} {r : En} : OkE Ex (fVar 0 (some d :: r) s) T ↔ T d s := Iff.rfl
theorem Jh {i : Nat} {x : Option Dv} {r : En} : OkE Ex (fVar (i + 1) (x :: r) s) T ↔ OkE Ex (fVar i r s) T := by
  unfold fVar; simp only [List.getElem?_cons_succ]
theorem Y8 {d : Dv} : OkE Ex (fC d env s) T ↔ T d s := Iff.rfl
theorem Yc : OkE Ex (fNil env s) L ↔ L [] s := Iff.rfl
theorem Ji {f : Fn Dv} {g : Fn (List Dv)} : OkE Ex (fCons f g env s) L ↔ OkE Ex (f env s) (kCons Ex g env L) := by
  unfold fCons; rw [ok_bind]
  refine ⟨fun h => h.mono fun _ _ h => ok_bind.mp h, fun h => h.mono fun _ _ h => ok_bind.mpr h⟩
theorem Yd {f : Fn (List Dv)} : OkE Ex (fTup f env s) T ↔ OkE Ex (f env s) (kTup T) := by
  unfold fTup; rw [ok_bind]
  exact ⟨fun h => h.mono fun _ _ h => ok_iff.mp h, fun h => h.mono fun _ _ h => ok_iff.mpr h⟩
theorem Ye {f : Fn (List Dv)} : OkE Ex (fLst f env s) L ↔ OkE Ex (f env s) (kLst L) := by
  unfold fLst; rw [ok_bind]
  exact ⟨fun h => h.mono fun _ _ h => ok_iff.mp h, fun h => h.mono fun _ _ h => ok_iff.mpr h⟩
theorem Yf {f : Fn (List Dv)} : OkE Ex (fVal f env s) T ↔ OkE Ex (f env s) (kVal T) := ok_bind
theorem Yg {f : Fn (List Dv)} : OkE Ex (fNew f env s) T ↔ OkE Ex (f env s) (kNew T) := ok_bind
theorem Yh {g : Dv → Dv → Sto → Rs Dv} {f1 f2 : Fn Dv} : OkE Ex (fBin g f1 f2 env s) T ↔ OkE Ex (f1 env s) (kBin Ex g f2 env T) := by
  unfold fBin; rw [ok_bind]
  refine ⟨fun h => h.mono fun _ _ h => ok_bind.mp h, fun h => h.mono fun _ _ h => ok_bind.mpr h⟩
theorem Y2 {g : Dv → Sto → Rs Dv} {f1 : Fn Dv} : OkE Ex (fUn g f1 env s) T ↔ OkE Ex (f1 env s) (kUn Ex g T) := ok_bind
theorem Jj {φ : Phi} {f : Fn (List Dv)} : OkE Ex (fCall φ f env s) T ↔ OkE Ex (f env s) (kCall Ex φ T) := ok_bind
theorem Qq {φ : List Dv → Sto → Rs (List Dv)} {f : Fn (List Dv)} : OkE Ex (fCallL φ f env s) L ↔ OkE Ex (f env s) (kCallL Ex φ L) := ok_bind
/-- a truth -/
def tst (B : Bool → Sto → Prop) : Dv → Sto → Prop
  | .bl b, s => B b s
  | _, _ => False
theorem Yi {b : Bool} : tst B (.bl b) s = B b s := rfl
theorem Jk {f : Fn Dv} : OkE Ex (fTest f env s) B ↔ OkE Ex (f env s) (tst B) := by
  unfold fTest; rw [ok_bind]
  cases f env s with
  | ok c s1 => cases c <;> exact Iff.rfl
  | _ => exact Iff.rfl
theorem Jl {f : Fn Bool} : OkE Ex (fNotT f env s) B ↔ OkE Ex (f env s) (kNotT B) := ok_bind
theorem Jm {f g : Fn Bool} : OkE Ex (fAndT f g env s) B ↔ OkE Ex (f env s) (kAndT Ex g env B) := by
  unfold fAndT; rw [ok_bind]
  refine ⟨fun h => h.mono fun b _ h => ?_, fun h => h.mono fun b _ h => ?_⟩ <;> cases b <;> exact h
theorem Yj {f g : Fn Bool} : OkE Ex (fOrT f g env s) B ↔ OkE Ex (f env s) (kOrT Ex g env B) := by
  unfold fOrT; rw [ok_bind]
  refine ⟨fun h => h.mono fun b _ h => ?_, fun h => h.mono fun b _ h => ?_⟩ <;> cases b <;> exact h
theorem Y3 {t : Fn Bool} {f g : Fn Dv} : OkE Ex (fIf t f g env s) T ↔ OkE Ex (t env s) (kIf Ex f g env T) := by
  unfold fIf; rw [ok_bind]
  refine ⟨fun h => h.mono fun b _ h => ?_, fun h => h.mono fun b _ h => ?_⟩ <;> cases b <;> exact h
theorem Yk {t : Fn Bool} {f g : Fn Ct} : OkE Ex (fIfS t f g env s) R ↔ OkE Ex (t env s) (kIfS Ex f g env R) := by
  unfold fIfS; rw [ok_bind]
  refine ⟨fun h => h.mono fun b _ h => ?_, fun h => h.mono fun b _ h => ?_⟩ <;> cases b <;> exact h
theorem Yl {f g : Fn Dv} : OkE Ex (fAnd f g env s) T ↔ OkE Ex (fTest f env s) (kAnd Ex g env T) := by
  unfold fAnd; rw [ok_bind]
  refine ⟨fun h => h.mono fun b _ h => ?_, fun h => h.mono fun b _ h => ?_⟩ <;> cases b <;> exact h
theorem Y4 {f g : Fn Dv} : OkE Ex (fOr f g env s) T ↔ OkE Ex (fTest f env s) (kOr Ex g env T) := by
  unfold fOr; rw [ok_bind]
  refine ⟨fun h => h.mono fun b _ h => ?_, fun h => h.mono fun b _ h => ?_⟩ <;> cases b <;> exact h
theorem Ym {f : Fn Dv} : OkE Ex (fNot f env s) T ↔ OkE Ex (fTest f env s) (kNot T) := ok_bind
theorem Y5 {ty : Dv → Sto → Bool} {g : Dv → List Dv → Sto → Rs Dv} {fo : Fn Dv} {fs : Fn (List Dv)} : OkE Ex (fMt ty g fo fs env s) T ↔ OkE Ex (fo env s) (kMt Ex ty g fs env T) := by
  unfold fMt; rw [ok_bind]
  refine ⟨fun h => h.mono fun _ _ h => ?_, fun h => h.mono fun _ _ h => ?_⟩
  · rw [ok_iff, ok_bind] at h; exact h
  · rw [ok_iff, ok_bind]; exact h
theorem Yn {fo fi fv : Fn Dv} : OkE Ex (fPut fo fi fv env s) R ↔ OkE Ex (fv env s) (kPut Ex fo fi env R) := by
  unfold fPut; rw [ok_bind]
  refine ⟨fun h => h.mono fun _ _ h => (ok_bind.mp h).mono fun _ _ h => (ok_bind.mp h).mono fun _ _ h => ok_bind.mp h, fun h => h.mono fun _ _ h => ok_bind.mpr (h.mono fun _ _ h => ok_bind.mpr (h.mono fun _ _ h => ok_bind.mpr h))⟩
theorem Qc {fo : Fn Dv} {fl : Fn (List Dv)} : OkE Ex (fExtend fo fl env s) T ↔ OkE Ex (fo env s) (kExt Ex fl env T) := by
  unfold fExtend; rw [ok_bind]
  refine ⟨fun h => h.mono fun _ _ h => ?_, fun h => h.mono fun _ _ h => ?_⟩
  · rw [ok_iff, ok_bind] at h; exact h
  · rw [ok_iff, ok_bind]; exact h
/-- both hands of a parallel assignment -/
def pr2 (i j : Nat) (env : En) (R : Ct → Sto → Prop) : List Dv → Sto → Prop := fun ds s => match ds with
  | [d, e] => R (.next ((env.set i (some d)).set j (some e))) s
  | _ => False
theorem Yo {i j : Nat} {d e : Dv} : pr2 i j env R [d, e] s = R (.next ((env.set i (some d)).set j (some e))) s := rfl
theorem Jn {i j : Nat} {f : Fn (List Dv)} : OkE Ex (fPar2 i j f env s) R ↔ OkE Ex (f env s) (pr2 i j env R) := by
  unfold fPar2; rw [ok_bind]
  cases f env s with
  | ok ds s1 =>
    show OkE Ex (match ds with | [d, e] => _ | _ => _) R ↔ pr2 i j env R ds s1
    unfold pr2
    split <;> exact Iff.rfl
  | _ => exact Iff.rfl
theorem Yp {f : Fn Dv} {g : Dv → Fn En} : OkE Ex (fAsg f g env s) R ↔ OkE Ex (f env s) (kAsg Ex g env R) := by
  unfold fAsg; rw [ok_bind]
  refine ⟨fun h => h.mono fun _ _ h => ok_bind.mp h, fun h => h.mono fun _ _ h => ok_bind.mpr h⟩
theorem Yq {fi : Fn Src} {g : Dv → Fn En} {b : Fn Ct} : OkE Ex (fFor fi g b env s) R ↔ OkE Ex (fi env s) (kFor Ex g b env R) := ok_bind
theorem Y6 {fi : Fn Src} {own : List Nat} {g : Dv → Fn En} {tt : Fn Bool} {te : Fn Dv} : OkE Ex (fLc fi own g tt te env s) L ↔ OkE Ex (fi env s) (kLc Ex own g tt te env L) := by
  unfold fLc; rw [ok_bind]
  exact ⟨fun h => h.mono fun _ _ h => ok_iff.mp h, fun h => h.mono fun _ _ h => ok_iff.mpr h⟩
theorem Yr : OkE Ex (fYes env s) B ↔ B true s := Iff.rfl
theorem Qd {O : Option Int → Sto → Prop} : OkE Ex (fNoPart env s) O ↔ O none s := Iff.rfl
def prt (O : Option Int → Sto → Prop) : Dv → Sto → Prop
  | .int i, s => O (some i) s
  | _, _ => False
theorem Jo {O : Option Int → Sto → Prop} {i : Int} : prt O (.int i) s = O (some i) s := rfl
theorem Jp {O : Option Int → Sto → Prop} {f : Fn Dv} : OkE Ex (fPart f env s) O ↔ OkE Ex (f env s) (prt O) := by
  unfold fPart; rw [ok_bind]
  cases f env s with
  | ok c s1 => cases c <;> exact Iff.rfl
  | _ => exact Iff.rfl
theorem Y7 {f : Fn Dv} {l h : Fn (Option Int)} : OkE Ex (fSl f l h env s) T ↔ OkE Ex (f env s) (kSl Ex l h env T) := by
  unfold fSl; rw [ok_bind]
  refine ⟨fun h => h.mono fun _ _ h => (ok_bind.mp h).mono fun _ _ h => ok_bind.mp h, fun h => h.mono fun _ _ h => ok_bind.mpr (h.mono fun _ _ h => ok_bind.mpr h)⟩
theorem Ys {i : Nat} {d : Dv} {E : En → Sto → Prop} : OkE Ex (gNm i d env s) E ↔ E (env.set i (some d)) s := Iff.rfl
theorem Yt {n : Nat} {h : List Dv → Fn En} {ds : List Dv} {E : En → Sto → Prop} : OkE Ex (gTp n h (.tup ds) env s) E ↔ (ds.length == n) = true ∧ OkE Ex (h ds env s) E := ok_iff
theorem Yu {E : En → Sto → Prop} : OkE Ex (gsNil [] env s) E ↔ E env s := Iff.rfl
theorem Yv {g : Dv → Fn En} {h : List Dv → Fn En} {d : Dv} {r : List Dv} {E : En → Sto → Prop} : OkE Ex (gsCons g h (d :: r) env s) E ↔ OkE Ex (g d env s) (kGs Ex h r E) := ok_bind
/-- behind a range's bound -/
def rg1 (S : Src → Sto → Prop) : List Dv → Sto → Prop := fun ds s => match ds with
  | [.int j] => inRng j = true ∧ S (rngD 0 j.toNat, noChk) s
  | _ => False
def rg2 (S : Src → Sto → Prop) : List Dv → Sto → Prop := fun ds s => match ds with
  | [.int i, .int j] => (inRng i && inRng j) = true ∧ S (rngD i (j - i).toNat, noChk) s
  | _ => False
theorem Yw {S : Src → Sto → Prop} {j : Int} : rg1 S [.int j] s = (inRng j = true ∧ S (rngD 0 j.toNat, noChk) s) := rfl
theorem Yx {S : Src → Sto → Prop} {i j : Int} : rg2 S [.int i, .int j] s = ((inRng i && inRng j) = true ∧ S (rngD i (j - i).toNat, noChk) s) := rfl
theorem Jq {S : Src → Sto → Prop} {f : Fn (List Dv)} : OkE Ex (fRng1 f env s) S ↔ OkE Ex (f env s) (rg1 S) := by
  unfold fRng1; rw [ok_bind]
  cases f env s with
  | ok ds s1 =>
    show OkE Ex (match ds with | [.int j] => _ | _ => _) S ↔ rg1 S ds s1
    unfold rg1
    split
    · exact ok_iff
    · exact Iff.rfl
  | _ => exact Iff.rfl
theorem Jr {S : Src → Sto → Prop} {f : Fn (List Dv)} : OkE Ex (fRng2 f env s) S ↔ OkE Ex (f env s) (rg2 S) := by
  unfold fRng2; rw [ok_bind]
  cases f env s with
  | ok ds s1 =>
    show OkE Ex (match ds with | [.int i, .int j] => _ | _ => _) S ↔ rg2 S ds s1
    unfold rg2
    split
    · exact ok_iff
    · exact Iff.rfl
  | _ => exact Iff.rfl
def srcK (Ex : Dv → Sto → Prop) (S : Src → Sto → Prop) : Dv → Sto → Prop := fun d s => match d with
  | .tup ds => S (ds, noChk) s
  | .ls ds => S (ds, noChk) s
  | .loc n => OkE Ex (match s[n]? with | some (.lst ds) => .ok (ds, isLst n ds) s | _ => .bad) S
  | _ => False
theorem Qr {S : Src → Sto → Prop} {ds : List Dv} : srcK Ex S (.tup ds) s = S (ds, noChk) s := rfl
theorem Js {S : Src → Sto → Prop} {ds : List Dv} : srcK Ex S (.ls ds) s = S (ds, noChk) s := rfl
theorem srcK_loc {S : Src → Sto → Prop} {n : Nat} {ds : List Dv} (h : s[n]? = some (.lst ds)) : srcK Ex S (.loc n) s = S (ds, isLst n ds) s := by
  show OkE Ex (match s[n]? with | some (.lst ds) => _ | _ => _) S = _
  rw [h]; rfl
theorem Yy {S : Src → Sto → Prop} {f : Fn Dv} : OkE Ex (fSrc f env s) S ↔ OkE Ex (f env s) (srcK Ex S) := by
  unfold fSrc; rw [ok_bind]
  cases f env s with
  | ok c s1 => cases c <;> exact Iff.rfl
  | _ => exact Iff.rfl

/-! ### loops by an invariant -/
theorem ok_loop {chk : Sto → Bool} {g : Dv → Fn En} {b : Fn Ct} {ds : List Dv} (I : Nat → En → Sto → Prop) (hc : ∀ i env s, I i env s → chk s = true)
    (step : ∀ i d env s, ds[i]? = some d → I i env s → OkE Ex (g d env s) fun env1 s1 => OkE Ex (b env1 s1) fun c s2 => match c with
      | .next e => I (i + 1) e s2
      | .cont e => I (i + 1) e s2
      | .brk e => R (.next e) s2
      | .ret r => R (.ret r) s2)
    (fin : ∀ env s, I ds.length env s → R (.next env) s) (h0 : I 0 env s) : OkE Ex (loopZ chk g b ds env s) R := by
  have go : ∀ (l : List Dv) (i : Nat) (env : En) (s : Sto), ds.drop i = l → i + l.length = ds.length → I i env s → OkE Ex (loopZ chk g b l env s) R := by
    intro l
    induction l with
    | nil =>
      intro i env s _ hl h
      show OkE Ex (Rs.iff _ _) R
      rw [ok_iff]
      refine ⟨hc _ _ _ h, ?_⟩
      have : i = ds.length := by simpa using hl
      subst this
      exact fin _ _ h
    | cons d l ih =>
      intro i env s hd hl h
      show OkE Ex (Rs.iff _ _) R
      rw [ok_iff, ok_bind]
      refine ⟨hc _ _ _ h, ?_⟩
      have hi : ds[i]? = some d := by
        have : (ds.drop i)[0]? = some d := by rw [hd]; rfl
        rwa [List.getElem?_drop, Nat.add_zero] at this
      refine (step i d env s hi h).mono fun env1 s1 h1 => ?_
      rw [ok_bind]
      refine h1.mono fun c s2 h2 => ?_
      have hd' : ds.drop (i + 1) = l := by
        rw [← List.drop_drop, hd]; rfl
      have hl' : i + 1 + l.length = ds.length := by rw [← hl, List.length_cons]; omega
      cases c with
      | next e => exact ih (i + 1) e s2 hd' hl' h2
      | cont e => exact ih (i + 1) e s2 hd' hl' h2
      | brk e => exact h2
      | ret r => exact h2
  exact go ds 0 env s rfl (by simp) h0
theorem ok_lcI {chk : Sto → Bool} {own : List Nat} {g : Dv → Fn En} {tt : Fn Bool} {te : Fn Dv} {ds : List Dv} (I : Nat → List Dv → Sto → Prop) (hc : ∀ i acc s, I i acc s → chk s = true)
    (step : ∀ i d acc s, ds[i]? = some d → I i acc s → OkE Ex (g d (wipeZ env own) s) fun env1 s1 => OkE Ex (tt env1 s1) fun b s2 => if b = true then OkE Ex (te env1 s2) fun y s3 => I (i + 1) (acc ++ [y]) s3 else I (i + 1) acc s2)
    (fin : ∀ acc s, I ds.length acc s → L acc s) (h0 : I 0 [] s) : OkE Ex (lcZ chk own g tt te ds env s) L := by
  have go : ∀ (l : List Dv) (i : Nat) (acc : List Dv) (s : Sto), ds.drop i = l → i + l.length = ds.length → I i acc s → OkE Ex (lcZ chk own g tt te l env s) fun ys s => L (acc ++ ys) s := by
    intro l
    induction l with
    | nil =>
      intro i acc s _ hl h
      show OkE Ex (Rs.iff _ _) _
      rw [ok_iff]
      refine ⟨hc _ _ _ h, ?_⟩
      have : i = ds.length := by simpa using hl
      subst this
      show L (acc ++ []) s
      rw [List.append_nil]; exact fin _ _ h
    | cons d l ih =>
      intro i acc s hd hl h
      show OkE Ex (Rs.iff _ _) _
      rw [ok_iff, ok_bind]
      refine ⟨hc _ _ _ h, ?_⟩
      have hi : ds[i]? = some d := by
        have : (ds.drop i)[0]? = some d := by rw [hd]; rfl
        rwa [List.getElem?_drop, Nat.add_zero] at this
      refine (step i d acc s hi h).mono fun env1 s1 h1 => ?_
      rw [ok_bind]
      refine h1.mono fun c s2 h2 => ?_
      have hd' : ds.drop (i + 1) = l := by
        rw [← List.drop_drop, hd]; rfl
      have hl' : i + 1 + l.length = ds.length := by rw [← hl, List.length_cons]; omega
      cases c with
      | true =>
        rw [if_pos rfl] at h2 ⊢
        rw [ok_bind]
        refine h2.mono fun y s3 h3 => ?_
        rw [ok_bind]
        refine (ih (i + 1) _ s3 hd' hl' h3).mono fun ys s4 h4 => ?_
        show L (acc ++ (y :: ys)) s4
        have e : acc ++ [y] ++ ys = acc ++ (y :: ys) := by rw [List.append_assoc]; rfl
        rw [← e]; exact h4
      | false =>
        rw [if_neg Bool.false_ne_true] at h2 ⊢
        exact ih (i + 1) acc s2 hd' hl' h2
  exact (go ds 0 [] s rfl (by simp) h0).mono fun ys s h => by simpa using h

/-! ### defs -/
def finK (Ex : Dv → Sto → Prop) (b : Nat) (T : Dv → Sto → Prop) : Ct → Sto → Prop
  | .next _, s => OkE Ex (gcZ b .non s) T
  | .ret d, s => OkE Ex (gcZ b d s) T
  | _, _ => False
theorem Qe {b : Nat} : finK Ex b T (.next env) s = OkE Ex (gcZ b .non s) T := rfl
theorem Qs {b : Nat} {d : Dv} : finK Ex b T (.ret d) s = OkE Ex (gcZ b d s) T := rfl
theorem ok_def {n m : Nat} {body : Fn Ct} {ds : List Dv} : OkE Ex (fDef n m body ds s) T ↔ (ds.length == n) = true ∧ OkE Ex (body (ds.map some ++ List.replicate (m - n) none) s) (finK Ex s.length T) := by
  unfold fDef
  rw [ok_iff, ok_bind]
  refine and_congr_right fun _ => ?_
  cases body (ds.map some ++ List.replicate (m - n) none) s with
  | ok c s1 => cases c <;> exact Iff.rfl
  | _ => exact Iff.rfl
mutual
theorem below_mono {a b : Nat} (h : a ≤ b) : ∀ {d : Dv}, below a d = true → below b d = true
  | .tup ds, e => by simp only [below] at e ⊢; exact belows_mono h e
  | .ls ds, e => by simp only [below] at e ⊢; exact belows_mono h e
  | .loc n, e => by simp only [below, decide_eq_true_eq] at e ⊢; omega
  | .non, _ => rfl
  | .bl _, _ => rfl
  | .int _, _ => rfl
  | .str _, _ => rfl
  | .xn _ _ _ fs, e => by simp only [below] at e ⊢; exact belows_mono h e
theorem belows_mono {a b : Nat} (h : a ≤ b) : ∀ {ds : List Dv}, belows a ds = true → belows b ds = true
  | [], _ => rfl
  | d :: r, e => by
    simp only [belows, Bool.and_eq_true] at e ⊢
    exact ⟨below_mono h e.1, belows_mono h e.2⟩
end
theorem belowO_mono {a b : Nat} (h : a ≤ b) {o : Ob} (e : belowO a o = true) : belowO b o = true := by
  cases o with
  | lst ds => exact belows_mono h e
  | dk kvs => exact List.all_eq_true.mpr fun p hp => below_mono h (List.all_eq_true.mp e p hp)
  | dt kvs => exact List.all_eq_true.mpr fun p hp => below_mono h (List.all_eq_true.mp e p hp)
/-- nothing of the store is named in what lies in the store -/
def Fl (s : Sto) : Prop := ∀ o ∈ s, belowO 0 o = true
theorem ok_gc {b l : Sto} {n : Nat} {d : Dv} (hn : b.length = n) (hb : Fl b) (hd : below n d = true) (h : T d b) : OkE Ex (gcZ n d (b ++ l)) T := by
  subst hn
  have ht : (b ++ l).take b.length = b := by simp
  have hk : keepsZ b.length (b ++ l) = true := by
    unfold keepsZ; rw [ht]
    exact List.all_eq_true.mpr fun o ho => belowO_mono (Nat.zero_le _) (hb o ho)
  unfold gcZ
  rw [hd, hk, ht]
  exact h
theorem ok_gc0 {b : Sto} {n : Nat} {d : Dv} (hn : b.length = n) (hb : Fl b) (hd : below n d = true) (h : T d b) : OkE Ex (gcZ n d b) T := by
  have := ok_gc (Ex := Ex) (l := []) hn hb hd h
  rwa [List.append_nil] at this
end
end Z

namespace Z
open PySem PySem.Spec PyProof.Rows L2

/-! ### the tap -/
structure Tap where
  cells : List Int
  spot : Int
  rest : Int
  calls : Int
def tapOb (t : Tap) : Ob := .dk [(.inr (Str.ofString "cells"), .ls (t.cells.map .int)), (.inr (Str.ofString "spot"), .int t.spot), (.inr (Str.ofString "rest"), .int t.rest), (.inr (Str.ofString "calls"), .int t.calls)]
theorem add_int {i j : Int} {s : Sto} : gAdd (.int i) (.int j) s = .ok (.int (i + j)) s := rfl
theorem sub_int {i j : Int} {s : Sto} : gSub (.int i) (.int j) s = .ok (.int (i - j)) s := rfl
theorem gt_int {i j : Int} {s : Sto} : gGt (.int i) (.int j) s = .ok (.bl (decide (j < i))) s := rfl
theorem ge_int {i j : Int} {s : Sto} : gGe (.int i) (.int j) s = .ok (.bl (decide (j ≤ i))) s := rfl
theorem lt_int {i j : Int} {s : Sto} : gLt (.int i) (.int j) s = .ok (.bl (decide (i < j))) s := rfl
theorem eq_int {i j : Int} {s : Sto} : gEq (.int i) (.int j) s = .ok (.bl (i == j)) s := rfl
theorem eq_str {i j : Str} {s : Sto} : gEq (.str i) (.str j) s = .ok (.bl (i == j)) s := rfl
theorem ne_str {i j : Str} {s : Sto} : gNe (.str i) (.str j) s = .ok (.bl (!(i == j))) s := rfl
theorem mod_int {i j : Int} {s : Sto} : gMod (.int i) (.int j) s = Rs.iff (decide (0 < j)) (.ok (.int (i % j)) s) := rfl
theorem div_int {i j : Int} {s : Sto} : gDiv (.int i) (.int j) s = Rs.iff (decide (0 < j) && decide (j < 2 ^ 64)) (.ok (.int (i / j)) s) := rfl
theorem mul_int {i j : Int} {s : Sto} : gMul (.int i) (.int j) s = Rs.iff ((decide (-(2 ^ 64) < i) && decide (i < 2 ^ 64)) || (decide (-(2 ^ 64) < j) && decide (j < 2 ^ 64))) (.ok (.int (i * j)) s) := rfl
theorem pow_int {i j : Int} {s : Sto} : gPow (.int i) (.int j) s = Rs.iff (decide (0 ≤ j) && decide (j ≤ 1000000) && decide (-(2 ^ 64) < i) && decide (i < 2 ^ 64)) (.ok (.int (i ^ j.toNat)) s) := rfl
theorem mod_ok {i j : Int} {s : Sto} (h : 0 < j) : gMod (.int i) (.int j) s = .ok (.int (i % j)) s := by rw [mod_int, decide_eq_true h]; rfl
theorem div_ok {i j : Int} {s : Sto} (h : 0 < j) (h2 : j < 2 ^ 64) : gDiv (.int i) (.int j) s = .ok (.int (i / j)) s := by rw [div_int, decide_eq_true h, decide_eq_true h2]; rfl
theorem mul_ok {i j : Int} {s : Sto} (h : -(2 ^ 64) < i ∧ i < 2 ^ 64) : gMul (.int i) (.int j) s = .ok (.int (i * j)) s := by rw [mul_int, decide_eq_true h.1, decide_eq_true h.2]; rfl
theorem pow_ok {i j : Int} {s : Sto} (h : 0 ≤ j ∧ j ≤ 1000000) (h2 : -(2 ^ 64) < i ∧ i < 2 ^ 64) : gPow (.int i) (.int j) s = .ok (.int (i ^ j.toNat)) s := by rw [pow_int, decide_eq_true h.1, decide_eq_true h.2, decide_eq_true h2.1, decide_eq_true h2.2]; rfl
theorem len_ls {ds : List Dv} {s : Sto} : gLen [.ls ds] s = .ok (.int ds.length) s := rfl
theorem len_tup {ds : List Dv} {s : Sto} : gLen [.tup ds] s = .ok (.int ds.length) s := rfl
theorem atI_nat' {ds : List Dv} {j : Nat} {d : Dv} (h : ds[j]? = some d) : atI ds (j : Int) = some d := L2.atI_nat h
theorem ix_ls {ds : List Dv} {i : Int} {d : Dv} {s : Sto} (h0 : 0 ≤ i) (h : ds[i.toNat]? = some d) : gIx (.ls ds) (.int i) s = .ok d s := by
  have e : atI ds i = some d := by
    have := atI_nat' h
    rwa [Int.toNat_of_nonneg h0] at this
  show (match (some ds).bind (atI · i) with | some d => _ | none => _) = _
  rw [Option.bind_some, e]
theorem ix_tup {ds : List Dv} {i : Int} {d : Dv} {s : Sto} (h0 : 0 ≤ i) (h : ds[i.toNat]? = some d) : gIx (.tup ds) (.int i) s = .ok d s := by
  have e : atI ds i = some d := by
    have := atI_nat' h
    rwa [Int.toNat_of_nonneg h0] at this
  show (match (some ds).bind (atI · i) with | some d => _ | none => _) = _
  rw [Option.bind_some, e]
/-- the tap is sound -/
structure Tap.Wf (t : Tap) : Prop where
  c0 : 0 ≤ t.calls
  r0 : 0 ≤ t.rest
  s0 : 0 ≤ t.spot
def bTake : Fn Ct :=
  fSeq (fSet 2 (fBin gAdd (fBin gIx (fVar 0) (fC (.str (Str.ofString "calls")))) (fC (.int 1))))
  (fSeq (fPut (fVar 0) (fC (.str (Str.ofString "calls"))) (fVar 2))
  (fSeq (fIfS (fTest (fBin gGt (fBin gIx (fVar 0) (fC (.str (Str.ofString "rest")))) (fC (.int 0)))) (fSeq (fSet 3 (fBin gMod (fBin gIx (fVar 0) (fC (.str (Str.ofString "rest")))) (fVar 1)))
  (fSeq (fPut (fVar 0) (fC (.str (Str.ofString "rest"))) (fBin gDiv (fBin gIx (fVar 0) (fC (.str (Str.ofString "rest")))) (fVar 1)))
  (fRet (fVar 3)))) (fNop))
  (fSeq (fSet 4 (fBin gIx (fVar 0) (fC (.str (Str.ofString "spot")))))
  (fSeq (fPut (fVar 0) (fC (.str (Str.ofString "spot"))) (fBin gAdd (fVar 4) (fC (.int 1))))
  (fSeq (fSet 5 (fBin gIx (fVar 0) (fC (.str (Str.ofString "cells")))))
  (fSeq (fSet 6 (fIf (fTest (fBin gGt (fCall gLen (fCons (fVar 5) (fNil))) (fC (.int 0)))) (fBin gIx (fVar 5) (fBin gMod (fVar 4) (fCall gLen (fCons (fVar 5) (fNil))))) (fC (.int 5))))
  (fSeq (fIfS (fAndT (fTest (fBin gLt (fVar 4) (fCall gLen (fCons (fVar 5) (fNil))))) (fTest (fBin gGe (fVar 6) (fBin gPow (fC (.int 10)) (fC (.int 18)))))) (fSeq (fPut (fVar 0) (fC (.str (Str.ofString "rest"))) (fBin gDiv (fVar 6) (fVar 1)))
  (fRet (fBin gMod (fVar 6) (fVar 1)))) (fNop))
  (fSeq (fSet 7 (fBin gMod (fBin gPow (fBin gAdd (fBin gAdd (fBin gMod (fVar 6) (fC (.int 2147483629))) (fBin gMul (fC (.int 6007)) (fVar 2))) (fC (.int 11))) (fC (.int 5))) (fC (.int 2147483647))))
  (fRet (fBin gMod (fBin gDiv (fBin gMod (fBin gPow (fBin gAdd (fVar 7) (fBin gMul (fBin gMul (fC (.int 4099)) (fVar 2)) (fVar 2))) (fC (.int 5))) (fC (.int 2147483587))) (fC (.int 32))) (fVar 1)))))))))))
def TakeS (φ : Phi) : Prop := ∀ (t : Tap) (r : Sto) (m : Int), t.Wf → t.calls < 1000000 → 1 ≤ m → m < 2 ^ 64 → Fl r → OkE nX (φ [.loc 0, .int m] (tapOb t :: r)) fun d s' => ∃ (x : Int) (t' : Tap), d = .int x ∧ 0 ≤ x ∧ x < m ∧ s' = tapOb t' :: r ∧ t'.Wf ∧ t'.calls = t.calls + 1
theorem belows_ints (n : Nat) : ∀ zs : List Int, belows n (zs.map .int) = true
  | [] => rfl
  | z :: r => by
    show (below n (.int z) && belows n (r.map .int)) = true
    rw [belows_ints n r]; rfl
theorem Fl.tap {t : Tap} {r : Sto} (h : Fl r) : Fl (tapOb t :: r) := fun o ho => by
  rcases List.mem_cons.mp ho with z | z
  · subst z
    simp only [tapOb, belowO, List.all_cons, List.all_nil, below, belows_ints, Bool.and_true]
  · exact h o z
end Z

namespace Z
open PySem PySem.Spec PyProof.Rows L2

/-! ### places of the store behind a base -/
theorem st_get {t : Ob} {r l : Sto} {k : Nat} : (t :: (r ++ l))[r.length + (k + 1)]? = l[k]? := by
  rw [show r.length + (k + 1) = (r.length + k) + 1 by omega, List.getElem?_cons_succ, List.getElem?_append_right (by omega), Nat.add_sub_cancel_left]
theorem st_set {t o : Ob} {r l : Sto} {k : Nat} : (t :: (r ++ l)).set (r.length + (k + 1)) o = t :: (r ++ l.set k o) := by
  rw [show r.length + (k + 1) = (r.length + k) + 1 by omega, List.set_cons_succ, List.set_append_right _ _ (by omega), Nat.add_sub_cancel_left]
theorem st_get1 {t o : Ob} {r l : Sto} : (t :: (r ++ o :: l))[r.length + 1]? = some o := st_get (k := 0)
theorem st_set1 {t o o' : Ob} {r l : Sto} : (t :: (r ++ o :: l)).set (r.length + 1) o' = t :: (r ++ o' :: l) := st_set (k := 0)
theorem isL_loc {n : Nat} {ds : List Dv} {s : Sto} (h : s[n]? = some (.lst ds)) : isL (.loc n) s = true := by
  show (match s[n]? with | some (.lst _) => true | _ => false) = true
  rw [h]
theorem append_loc {n : Nat} {ds : List Dv} {d : Dv} {s : Sto} (h : s[n]? = some (.lst ds)) (hl : ds.length < 16777216) : gAppend (.loc n) [d] s = .ok .non (s.set n (.lst (ds ++ [d]))) := by
  show (match s[n]? with | some (.lst ds) => _ | _ => _) = _
  rw [h]
  show Rs.iff (decide (ds.length < 16777216)) _ = _
  rw [decide_eq_true hl]; rfl
theorem ixN_nat {n : Nat} {i : Int} (h0 : 0 ≤ i) (h : i < n) : ixN n i = some i.toNat := by
  unfold ixN; rw [if_pos h0, if_pos h]
theorem popAt_loc {n : Nat} {ds : List Dv} {i : Int} {d : Dv} {s : Sto} (h : s[n]? = some (.lst ds)) (h0 : 0 ≤ i) (h1 : i < 1000000) (hd : ds[i.toNat]? = some d) : gPopAt (.loc n) [.int i] s = .ok d (s.set n (.lst (ds.eraseIdx i.toNat))) := by
  show (match s[n]? with | some (.lst ds) => (match ixN ds.length i with | some j => (match ds[j]? with | some d => Rs.iff (inRng i) (.ok d (s.set n (.lst (ds.eraseIdx j)))) | none => .bad) | none => .bad) | _ => .bad) = _
  rw [h]
  have hl := (List.getElem?_eq_some_iff.mp hd).1
  show (match ixN ds.length i with | some j => (match ds[j]? with | some d => Rs.iff (inRng i) (Rs.ok d (s.set n (.lst (ds.eraseIdx j)))) | none => .bad) | none => .bad) = _
  rw [ixN_nat h0 (by omega)]
  show (match ds[i.toNat]? with | some d => Rs.iff (inRng i) (Rs.ok d (s.set n (.lst (ds.eraseIdx i.toNat)))) | none => .bad) = _
  rw [hd]
  show Rs.iff (inRng i) _ = _
  have : inRng i = true := by
    unfold inRng
    rw [Bool.and_eq_true, decide_eq_true_eq, decide_eq_true_eq]
    constructor <;> omega
  rw [this]; rfl
theorem len_loc {n : Nat} {ds : List Dv} {s : Sto} (h : s[n]? = some (.lst ds)) : gLen [.loc n] s = .ok (.int ds.length) s := by
  show (match (match s[n]? with | some (.lst ds) => some ds | _ => none) with | some ds => Rs.ok (Dv.int ds.length) s | none => .bad) = _
  rw [h]
theorem tuple_ls {ds : List Dv} {s : Sto} : gTuple [.ls ds] s = .ok (.tup ds) s := rfl
theorem tuple_loc {n : Nat} {ds : List Dv} {s : Sto} (h : s[n]? = some (.lst ds)) : gTuple [.loc n] s = .ok (.tup ds) s := by
  show (match (match s[n]? with | some (.lst ds) => some ds | _ => none) with | some ds => Rs.ok (Dv.tup ds) s | none => .bad) = _
  rw [h]
theorem belows_strs (n : Nat) : ∀ zs : List Str, belows n (zs.map .str) = true
  | [] => rfl
  | z :: r => by
    show (below n (.str z) && belows n (r.map .str)) = true
    rw [belows_strs n r]; rfl
theorem below_tup {n : Nat} {ds : List Dv} (h : belows n ds = true) : below n (.tup ds) = true := by simpa [below] using h
theorem below_ls {n : Nat} {ds : List Dv} (h : belows n ds = true) : below n (.ls ds) = true := by simpa [below] using h
theorem belows_cons {n : Nat} {d : Dv} {ds : List Dv} (h : below n d = true) (h2 : belows n ds = true) : belows n (d :: ds) = true := by simp [belows, h, h2]
theorem belows_app {n : Nat} : ∀ {ds es : List Dv}, belows n ds = true → belows n es = true → belows n (ds ++ es) = true
  | [], _, _, h => h
  | d :: ds, es, h, h2 => by
    simp only [belows, Bool.and_eq_true, List.cons_append] at h ⊢
    exact ⟨h.1, belows_app h.2 h2⟩
theorem belows_all {n : Nat} : ∀ {ds : List Dv}, (∀ d ∈ ds, below n d = true) → belows n ds = true
  | [], _ => rfl
  | d :: ds, h => belows_cons (h d List.mem_cons_self) (belows_all fun x hx => h x (List.mem_cons_of_mem _ hx))
theorem Fl.app {r l : Sto} (h : Fl r) (h2 : Fl l) : Fl (r ++ l) := fun o ho => (List.mem_append.mp ho).elim (h o) (h2 o)
theorem Fl.one {ds : List Dv} (h : belows 0 ds = true) : Fl [.lst ds] := fun o ho => by rw [List.mem_singleton.mp ho]; exact h
theorem Fl.nil : Fl [] := fun o ho => by cases ho
theorem Fl.two {ds es : List Dv} (h : belows 0 ds = true) (h2 : belows 0 es = true) : Fl [.lst ds, .lst es] := fun o ho => by
  rcases List.mem_cons.mp ho with z | z
  · rw [z]; exact h
  · rw [List.mem_singleton.mp z]; exact h2
theorem inRng_small {i : Int} (h0 : -1000000000 ≤ i) (h1 : i < 1000000000) : inRng i = true := by
  unfold inRng
  rw [Bool.and_eq_true, decide_eq_true_eq, decide_eq_true_eq]
  constructor <;> omega
theorem str_get {xs : List Str} {j : Nat} (h : j < xs.length) : (xs.map Dv.str)[j]? = some (.str xs[j]) := by rw [List.getElem?_map, List.getElem?_eq_getElem h]; rfl
theorem map_erase {α β : Type} (f : α → β) : ∀ (l : List α) (i : Nat), (l.map f).eraseIdx i = (l.eraseIdx i).map f
  | [], _ => rfl
  | _ :: _, 0 => rfl
  | x :: l, i + 1 => by
    show f x :: (l.map f).eraseIdx i = f x :: (l.eraseIdx i).map f
    rw [map_erase f l i]
theorem erase_perm {α : Type} : ∀ (l : List α) (i : Nat) (h : i < l.length), (l[i] :: l.eraseIdx i).Perm l
  | x :: l, 0, _ => List.Perm.refl _
  | x :: l, i + 1, h => by
    show (l[i]'(by simpa using h) :: x :: l.eraseIdx i).Perm (x :: l)
    exact (List.Perm.swap x _ _).trans ((erase_perm l i (by simpa using h)).cons x)

/-! ### some names -/
def pool10 : List Str := [Str.ofString "a", Str.ofString "ab", Str.ofString "abc", Str.ofString "b", Str.ofString "bell", Str.ofString "told", Str.ofString "x", Str.ofString "zz", Str.ofString "zzzzzzzz", Str.ofString "as"]
def bLots (φt : Phi) : Fn Ct :=
  fSeq (fSet 2 (fNew (fLst (fCons (fC (.str (Str.ofString "a"))) (fCons (fC (.str (Str.ofString "ab"))) (fCons (fC (.str (Str.ofString "abc"))) (fCons (fC (.str (Str.ofString "b"))) (fCons (fC (.str (Str.ofString "bell"))) (fCons (fC (.str (Str.ofString "told"))) (fCons (fC (.str (Str.ofString "x"))) (fCons (fC (.str (Str.ofString "zz"))) (fCons (fC (.str (Str.ofString "zzzzzzzz"))) (fCons (fC (.str (Str.ofString "as"))) (fNil))))))))))))))
  (fRet (fCall gTuple (fCons (fVal (fLc (fRng1 (fCons (fVar 1) (fNil))) [3] (gNm 3) (fYes) (fMt isL gPopAt (fVar 2) (fCons (fCall φt (fCons (fVar 0) (fCons (fCall gLen (fCons (fVar 2) (fNil))) (fNil)))) (fNil))))) (fNil))))
def LotsS (φ : Phi) : Prop := ∀ (t : Tap) (r : Sto) (m : Int), t.Wf → t.calls + m ≤ 1000000 → 0 ≤ m → m ≤ 10 → Fl r → OkE nX (φ [.loc 0, .int m] (tapOb t :: r)) fun d s' => ∃ (xs : List Str) (t' : Tap), d = .tup (xs.map .str) ∧ (xs.length : Int) = m ∧ xs.Nodup ∧ (∀ x ∈ xs, x ∈ pool10) ∧
  s' = tapOb t' :: r ∧ t'.Wf ∧ t.calls ≤ t'.calls ∧ t'.calls ≤ t.calls + m
end Z

namespace Z
open PySem PySem.Spec PyProof.Rows L2

/-! ### sorted texts -/
def srtS (xs : List Str) : List Str := xs.mergeSort (PySem.W.dataLe false fun x => .str x)
theorem srtS_perm (xs : List Str) : (srtS xs).Perm xs := List.mergeSort_perm _ _
theorem sortD_map {α : Type} (f : α → Dv) (g : α → PyData) (xs : List α) : sortD (xs.map f) (xs.map g) = (xs.mergeSort (PySem.W.dataLe false g)).map f := by
  unfold sortD
  rw [show (xs.map f).zip (xs.map g) = xs.map fun x => (f x, g x) by induction xs with | nil => rfl | cons x l ih => simp [ih]]
  rw [← List.map_mergeSort (r := PySem.W.dataLe false g) (f := fun x => (f x, g x)) (fun _ _ _ _ => rfl), List.map_map]
  rfl
theorem mapM_map {α β γ : Type} {f : α → β} {g : β → Option γ} {h : α → γ} : ∀ {xs : List α}, (∀ x ∈ xs, g (f x) = some (h x)) → (xs.map f).mapM g = some (xs.map h)
  | [], _ => rfl
  | x :: l, hh => by
    rw [List.map_cons, List.mapM_cons, hh x List.mem_cons_self, mapM_map (xs := l) fun y hy => hh y (List.mem_cons_of_mem _ hy)]
    rfl
theorem sorted_of {α : Type} {d : Dv} {s : Sto} {xs : List α} {f : α → Dv} {g : α → PyData} (hd : seqOf s d = some (xs.map f)) (hf : ∀ x ∈ xs, pyOf s (f x) = some (g x)) (ha : alikeB (xs.map g) = true) (hb : sortB (xs.map g) = true) :
    gSorted [d] s = .ok ((xs.mergeSort (PySem.W.dataLe false g)).map f) s := by
  show (match seqOf s d with | some ds => (match ds.mapM (pyOf s) with | some ps => Rs.iff (alikeB ps && sortB ps) (.ok (sortD ds ps) s) | none => .bad) | none => .bad) = _
  rw [hd]
  show (match (xs.map f).mapM (pyOf s) with | some ps => Rs.iff (alikeB ps && sortB ps) (Rs.ok (sortD (xs.map f) ps) s) | none => .bad) = _
  rw [mapM_map hf]
  show Rs.iff (alikeB (xs.map g) && sortB (xs.map g)) (Rs.ok (sortD (xs.map f) (xs.map g)) s) = _
  rw [ha, hb, sortD_map]; rfl
theorem alike_strs (xs : List Str) : alikeB (xs.map PyData.str) = true := by
  refine List.all_eq_true.mpr fun d hd => List.all_eq_true.mpr fun e he => ?_
  obtain ⟨x, _, rfl⟩ := List.mem_map.mp hd
  obtain ⟨y, _, rfl⟩ := List.mem_map.mp he
  simp [PySem.W.alike]
theorem sortB_strs (xs : List Str) : sortB (xs.map PyData.str) = true := by
  refine Bool.or_eq_true_iff.mpr (.inr (List.all_eq_true.mpr fun d hd => ?_))
  obtain ⟨x, _, rfl⟩ := List.mem_map.mp hd
  rfl
theorem sorted_ls {xs : List Str} {s : Sto} : gSorted [.ls (xs.map .str)] s = .ok ((srtS xs).map .str) s := sorted_of (g := .str) rfl (fun x _ => rfl) (alike_strs xs) (sortB_strs xs)
theorem cut_take {ds : List Dv} {k : Int} (h : 0 ≤ k) : cutD ds none (some k) = ds.take k.toNat := by
  unfold cutD
  have e : HT.sIx ds.length ds.length (some k) = min k.toNat ds.length := by
    have := HT.sIx_nat ds.length ds.length k.toNat
    rwa [Int.toNat_of_nonneg h] at this
  rw [e]
  show (ds.drop 0).take (min k.toNat ds.length - 0) = _
  rw [List.drop_zero, Nat.sub_zero, List.take_eq_take_iff]; omega
/-! ### some of the names -/
def bOthers (φt : Phi) : Fn Ct :=
  fRet (fCall gTuple (fCons (fVal (fCallL gSorted (fCons (fSl (fVal (fLc (fSrc (fVar 1)) [4] (gNm 4) (fAndT (fTest (fBin gNe (fVar 4) (fVar 2))) (fTest (fBin gEq (fCall φt (fCons (fVar 0) (fCons (fC (.int 2)) (fNil)))) (fC (.int 0))))) (fVar 4))) (fNoPart) (fPart (fVar 3))) (fNil)))) (fNil)))
def OthersS (φ : Phi) : Prop := ∀ (t : Tap) (r : Sto) (lots : List Str) (name : Str) (most : Int), t.Wf → t.calls + lots.length ≤ 1000000 → lots.length ≤ 1000 → 0 ≤ most → Fl r →
  OkE nX (φ [.loc 0, .tup (lots.map .str), .str name, .int most] (tapOb t :: r)) fun d s' => ∃ (ws : List Str) (t' : Tap), d = .tup ((srtS ws).map .str) ∧ ws.Sublist lots ∧ name ∉ ws ∧ (ws.length : Int) ≤ most ∧
  s' = tapOb t' :: r ∧ t'.Wf ∧ t.calls ≤ t'.calls ∧ t'.calls ≤ t.calls + lots.length
theorem take_succ' {α : Type} {l : List α} {i : Nat} {x : α} (h : l[i]? = some x) : l.take (i + 1) = l.take i ++ [x] := by
  rw [List.take_succ, h]; rfl
def bNames (φt : Phi) : Fn Ct :=
  fSeq (fSet 2 (fVal (fLc (fSrc (fVar 1)) [3] (gNm 3) (fTest (fBin gEq (fCall φt (fCons (fVar 0) (fCons (fC (.int 2)) (fNil)))) (fC (.int 0)))) (fVar 3))))
  (fSeq (fIfS (fTest (fBin gEq (fVar 2) (fVal (fLst (fNil))))) (fSet 2 (fVal (fLst (fCons (fBin gIx (fVar 1) (fCall φt (fCons (fVar 0) (fCons (fCall gLen (fCons (fVar 1) (fNil))) (fNil))))) (fNil))))) (fNop))
  (fRet (fCall gTuple (fCons (fVal (fCallL gSorted (fCons (fVar 2) (fNil)))) (fNil)))))
def NamesS (φ : Phi) : Prop := ∀ (t : Tap) (r : Sto) (lots : List Str), (∀ x ∈ lots, x ∈ pool10) → t.Wf → t.calls + lots.length + 1 ≤ 1000000 → lots.length ≤ 1000 → 1 ≤ lots.length → Fl r →
  OkE nX (φ [.loc 0, .tup (lots.map .str)] (tapOb t :: r)) fun d s' => ∃ (ws : List Str) (t' : Tap), d = .tup ((srtS ws).map .str) ∧ ws.Sublist lots ∧ ws ≠ [] ∧
  s' = tapOb t' :: r ∧ t'.Wf ∧ t.calls ≤ t'.calls ∧ t'.calls ≤ t.calls + lots.length + 1
end Z

namespace Z
open PySem PySem.Spec PyProof.Rows L2

/-! ### words -/
def lettersS : Str := Str.ofString "abcdefghijklmnopqrstuvwxyz"
def isLet (c : Nat) : Bool := decide (c ∈ lettersS.cps.toList)
def isWordS (z : Str) : Bool := decide (1 ≤ z.length) && decide (z.length ≤ 8) && z.cps.toList.all isLet
theorem let_small : ∀ c ∈ lettersS.cps.toList, c < 0x110000 := by decide +kernel
theorem word_ok {x : Str} (h : isWordS x = true) : PyData.strOk x = true ∧ x.cps.size ≤ 8 := by
  unfold isWordS at h
  simp only [Bool.and_eq_true, decide_eq_true_eq] at h
  refine ⟨?_, h.1.2⟩
  show x.cps.all (· < 0x110000) = true
  rw [Array.all_eq_true_iff_forall_mem]
  intro c hc
  have := List.all_eq_true.mp h.2 c (Array.mem_toList_iff.mpr hc)
  exact decide_eq_true (let_small c (of_decide_eq_true this))

/-! ### a count -/
structure Pil where
  name : Str
  many : Int
  slip : Int
  others : List Str
def encS (xs : List Str) : Dv := .tup (xs.map .str)
def encP (p : Pil) : Dv := .tup [.str p.name, .int p.many, .int p.slip, encS p.others]
structure Cnt where
  lots : List Str
  piles : List Pil
  doubts : List (List Str)
def encC (c : Cnt) : Dv := .tup [encS c.lots, .tup (c.piles.map encP), .tup (c.doubts.map encS)]
structure PilOk (lots : List Str) (p : Pil) : Prop where
  name : p.name ∈ lots
  many0 : 0 ≤ p.many
  many1 : p.many ≤ 1000000
  slip0 : 0 ≤ p.slip
  slip1 : p.slip ≤ 10000
  others : p.others = [] ∨ ∃ ws : List Str, p.others = srtS ws ∧ ws.Sublist lots ∧ p.name ∉ ws ∧ ws.length ≤ 2
structure CntOk (c : Cnt) : Prop where
  len2 : 2 ≤ c.lots.length
  len6 : c.lots.length ≤ 6
  nd : c.lots.Nodup
  pool : ∀ x ∈ c.lots, isWordS x = true
  piles : ∀ p ∈ c.piles, PilOk c.lots p
  npiles : c.piles.length ≤ 10
  few : (c.piles.filter fun p => !p.others.isEmpty).length ≤ 3
  doubts : ∀ d ∈ c.doubts, ∃ ws : List Str, d = srtS ws ∧ ws.Sublist c.lots ∧ ws ≠ []
  ndoubts : c.doubts.length ≤ 12
  pl : ∀ x ∈ c.lots, x ∈ pool10
theorem belows_map {α : Type} {n : Nat} {f : α → Dv} (h : ∀ a, below n (f a) = true) (xs : List α) : belows n (xs.map f) = true := belows_all fun d hd => by
  obtain ⟨a, _, rfl⟩ := List.mem_map.mp hd
  exact h a
theorem below_encS (n : Nat) (xs : List Str) : below n (encS xs) = true := below_tup (belows_strs n xs)
theorem below_encP (n : Nat) (p : Pil) : below n (encP p) = true := below_tup (belows_cons rfl (belows_cons rfl (belows_cons rfl (belows_cons (below_encS n _) rfl))))
theorem below_encC (n : Nat) (c : Cnt) : below n (encC c) = true := below_tup (belows_cons (below_encS n _) (belows_cons (below_tup (belows_map (below_encP n) _)) (belows_cons (below_tup (belows_map (below_encS n) _)) rfl)))
def bCount (φt φl φo φn : Phi) : Fn Ct :=
  fSeq (fSet 1 (fCall φl (fCons (fVar 0) (fCons (fBin gAdd (fC (.int 2)) (fCall φt (fCons (fVar 0) (fCons (fC (.int 5)) (fNil))))) (fNil)))))
  (fSeq (fPar2 2 3 (fCons (fNew (fLst (fNil))) (fCons (fC (.int 0)) (fNil))))
  (fSeq (fFor (fRng1 (fCons (fBin gIx (fVal (fLst (fCons (fCall φt (fCons (fVar 0) (fCons (fC (.int 4)) (fNil)))) (fCons (fCall φt (fCons (fVar 0) (fCons (fC (.int 11)) (fNil)))) (fNil))))) (fCall φt (fCons (fVar 0) (fCons (fC (.int 2)) (fNil))))) (fNil))) (gNm 4) (fSeq (fSet 5 (fBin gIx (fVar 1) (fCall φt (fCons (fVar 0) (fCons (fCall gLen (fCons (fVar 1) (fNil))) (fNil))))))
  (fSeq (fSet 6 (fBin gIx (fVal (fLst (fCons (fC (.int 0)) (fCons (fCall φt (fCons (fVar 0) (fCons (fC (.int 5)) (fNil)))) (fCons (fCall φt (fCons (fVar 0) (fCons (fC (.int 100)) (fNil)))) (fCons (fCall φt (fCons (fVar 0) (fCons (fBin gAdd (fBin gPow (fC (.int 10)) (fC (.int 6))) (fC (.int 1))) (fNil)))) (fNil))))))) (fCall φt (fCons (fVar 0) (fCons (fC (.int 4)) (fNil))))))
  (fSeq (fSet 7 (fBin gIx (fVal (fLst (fCons (fC (.int 0)) (fCons (fC (.int 1)) (fCons (fCall φt (fCons (fVar 0) (fCons (fC (.int 4)) (fNil)))) (fCons (fCall φt (fCons (fVar 0) (fCons (fBin gAdd (fBin gPow (fC (.int 10)) (fC (.int 4))) (fC (.int 1))) (fNil)))) (fNil))))))) (fCall φt (fCons (fVar 0) (fCons (fC (.int 4)) (fNil))))))
  (fSeq (fSet 8 (fTup (fNil)))
  (fSeq (fIfS (fAndT (fTest (fBin gLt (fVar 3) (fC (.int 3)))) (fTest (fBin gEq (fCall φt (fCons (fVar 0) (fCons (fC (.int 3)) (fNil)))) (fC (.int 0))))) (fSeq (fSet 8 (fCall φo (fCons (fVar 0) (fCons (fVar 1) (fCons (fVar 5) (fCons (fC (.int 2)) (fNil)))))))
  (fSet 3 (fBin gAdd (fVar 3) (fC (.int 1))))) (fNop))
  (fDrop (fMt isL gAppend (fVar 2) (fCons (fTup (fCons (fVar 5) (fCons (fVar 6) (fCons (fVar 7) (fCons (fVar 8) (fNil)))))) (fNil))))))))))
  (fSeq (fSet 9 (fNew (fLst (fNil))))
  (fSeq (fFor (fRng1 (fCons (fBin gIx (fVal (fLst (fCons (fCall φt (fCons (fVar 0) (fCons (fC (.int 4)) (fNil)))) (fCons (fCall φt (fCons (fVar 0) (fCons (fC (.int 13)) (fNil)))) (fNil))))) (fCall φt (fCons (fVar 0) (fCons (fC (.int 2)) (fNil))))) (fNil))) (gNm 4) (fDrop (fMt isL gAppend (fVar 9) (fCons (fCall φn (fCons (fVar 0) (fCons (fVar 1) (fNil)))) (fNil)))))
  (fRet (fTup (fCons (fVar 1) (fCons (fCall gTuple (fCons (fVar 2) (fNil))) (fCons (fCall gTuple (fCons (fVar 9) (fNil))) (fNil))))))))))
def CountS (φ : Phi) : Prop := ∀ (t : Tap) (r : Sto), t.Wf → t.calls + 1000 ≤ 1000000 → Fl r →
  OkE nX (φ [.loc 0] (tapOb t :: r)) fun d s' => ∃ (c : Cnt) (t' : Tap), d = encC c ∧ CntOk c ∧ s' = tapOb t' :: r ∧ t'.Wf ∧ t.calls ≤ t'.calls ∧ t'.calls ≤ t.calls + 1000
theorem len2 {r : Sto} {a : Ob} : (r ++ [a]).length + 1 = r.length + 2 := by simp
end Z

namespace Z
open PySem PySem.Spec PyProof.Rows L2

/-! ### an end's sums -/
theorem bs_get {s l : Sto} {o : Ob} : (s ++ o :: l)[s.length]? = some o := by rw [List.getElem?_append_right (Nat.le_refl _), Nat.sub_self]; rfl
theorem bs_set {s l : Sto} {o o' : Ob} : (s ++ o :: l).set s.length o' = s ++ o' :: l := by rw [List.set_append_right _ _ (Nat.le_refl _), Nat.sub_self]; rfl
theorem strsOf_map : ∀ xs : List Str, strsOf (xs.map .str) = some xs
  | [] => rfl
  | x :: r => by
    show (strsOf (r.map .str)).map (x :: ·) = _
    rw [strsOf_map r]; rfl
theorem ix_first {d : Dv} {ds : List Dv} {s : Sto} : gIx (.tup (d :: ds)) (.int 0) s = .ok d s := ix_tup (by decide) rfl
theorem ix_second {d e : Dv} {ds : List Dv} {s : Sto} : gIx (.tup (d :: e :: ds)) (.int 1) s = .ok e s := ix_tup (by decide) rfl
theorem ix_third {d e f : Dv} {ds : List Dv} {s : Sto} : gIx (.tup (d :: e :: f :: ds)) (.int 2) s = .ok f s := ix_tup (by decide) rfl
def encL (x : Str × Int) : Dv := .tup [.str x.1, .int x.2]
def encE (laid : List (Str × Int)) (ds : List Str) : Dv := .tup [.tup (laid.map encL), encS ds]
def sumOf (laid : List (Str × Int)) (n : Str) : Int := (laid.map fun x => if x.1 = n then x.2 else 0).sum
def cntOf (ds : List Str) (n : Str) : Int := (ds.map fun x => if x = n then 1 else 0).sum
def tally (lots : List Str) (laid : List (Str × Int)) (ds : List Str) : List Int := lots.map fun n => sumOf laid n + cntOf ds n
def bTally : Fn Ct :=
  fSeq (fSet 2 (fBin gIx (fVar 0) (fC (.int 0))))
  (fSeq (fSet 4 (fNew (fLc (fSrc (fVar 2)) [3] (gNm 3) (fYes) (fC (.int 0)))))
  (fSeq (fFor (fSrc (fBin gIx (fVar 1) (fC (.int 0)))) (gTp 2 (gsCons (gNm 3) (gsCons (gNm 5) (gsNil)))) (fAug (fun i j => i + j) (fVar 4) (fIndex (fVar 2) (fCons (fVar 3) (fNil))) (fVar 5)))
  (fSeq (fFor (fSrc (fBin gIx (fVar 1) (fC (.int 1)))) (gNm 3) (fAug (fun i j => i + j) (fVar 4) (fIndex (fVar 2) (fCons (fVar 3) (fNil))) (fC (.int 1))))
  (fRet (fCall gTuple (fCons (fVar 4) (fNil)))))))
def TallyS (φ : Phi) : Prop := ∀ (s : Sto) (lots : List Str) (more : List Dv) (laid : List (Str × Int)) (ds : List Str), lots.Nodup → lots.length ≤ 1000 → (∀ x ∈ laid, x.1 ∈ lots) → (∀ d ∈ ds, d ∈ lots) → Fl s →
  OkE nX (φ [.tup (encS lots :: more), encE laid ds] s) fun d s' => d = .tup ((tally lots laid ds).map .int) ∧ s' = s
end Z

namespace Z
open PySem PySem.Spec PyProof.Rows L2

/-! ### data without places: repr -/
mutual
def pd : Dv → PyData
  | .non => .none
  | .bl b => .bool b
  | .int i => .int i
  | .str x => .str x
  | .tup ds => .tuple (pds ds)
  | .ls ds => .list (pds ds)
  | .loc _ => .none
  | .xn .. => .none
def pds : List Dv → List PyData
  | [] => []
  | d :: r => pd d :: pds r
end
mutual
/-- no places, ints below 10^12, texts in order, not deep -/
def gd : Nat → Dv → Bool
  | 0, _ => false
  | _ + 1, .non => true
  | _ + 1, .bl _ => true
  | _ + 1, .int i => decide (i.natAbs < 10 ^ 12)
  | _ + 1, .str x => PyData.strOk x
  | n + 1, .tup ds => gds n ds
  | n + 1, .ls ds => gds n ds
  | _ + 1, .loc _ => false
  | _ + 1, .xn .. => false
def gds : Nat → List Dv → Bool
  | _, [] => true
  | n, d :: r => gd n d && gds n r
end
mutual
def wd : Dv → Nat
  | .int _ => 41
  | .str x => x.cps.size
  | .tup ds => wds ds
  | .ls ds => wds ds
  | _ => 0
def wds : List Dv → Nat
  | [] => 0
  | d :: r => wd d + 1 + wds r
end
mutual
theorem py_gd {s : Sto} : ∀ {n m : Nat} {d : Dv}, gd n d = true → n ≤ m → py s m d = some (pd d)
  | 0, _, _, h, _ => by simp [gd] at h
  | n + 1, 0, _, _, hm => by omega
  | n + 1, m + 1, .non, _, _ => by simp [py, pd]
  | n + 1, m + 1, .bl _, _, _ => by simp [py, pd]
  | n + 1, m + 1, .int _, _, _ => by simp [py, pd]
  | n + 1, m + 1, .str _, _, _ => by simp [py, pd]
  | n + 1, m + 1, .tup ds, h, hm => by
    have h : gds n ds = true := by simpa [gd] using h
    show (ds.mapM (py s m)).map PyData.tuple = _
    rw [pys_gd h (by omega)]; simp [pd]
  | n + 1, m + 1, .ls ds, h, hm => by
    have h : gds n ds = true := by simpa [gd] using h
    show (ds.mapM (py s m)).map PyData.list = _
    rw [pys_gd h (by omega)]; simp [pd]
  | n + 1, m + 1, .loc _, h, _ => by simp [gd] at h
  | n + 1, m + 1, .xn .., h, _ => by simp [gd] at h
theorem pys_gd {s : Sto} : ∀ {n m : Nat} {ds : List Dv}, gds n ds = true → n ≤ m → ds.mapM (py s m) = some (pds ds)
  | _, _, [], _, _ => by simp [pds]
  | n, m, d :: r, h, hm => by
    have h : gd n d = true ∧ gds n r = true := by simpa [gds] using h
    rw [List.mapM_cons, py_gd h.1 hm, pys_gd h.2 hm]; simp [pds]
end
theorem int_short {i : Int} (h : i.natAbs < 10 ^ 12) : (PyData.shown (.int i)).length ≤ 13 := by
  have := int_text_length_le10 (a := i) (k := 12) (by decide) h
  show (Str.ofString (toString i)).length ≤ 13
  rw [PySem.ofString_length]; exact this
theorem log2_small {n : Nat} (h : n < 10 ^ 12) : n.log2 < 40 := by
  by_cases h0 : n = 0
  · subst h0; decide
  · exact (Nat.log2_lt h0).mpr (by omega)
mutual
theorem gd_ok : ∀ {n : Nat} {d : Dv}, gd n d = true → (pd d).canLay0 = true ∧ (pd d).intsShort 13 = true ∧ (pd d).showable = true ∧ (pd d).weight ≤ wd d ∧ (pd d).depth ≤ n
  | 0, _, h => by simp [gd] at h
  | n + 1, .non, _ => by simp [pd, PyData.canLay0, PyData.intsShort, PyData.showable, PyData.weight, PyData.depth, wd]
  | n + 1, .bl _, _ => by simp [pd, PyData.canLay0, PyData.intsShort, PyData.showable, PyData.weight, PyData.depth, wd]
  | n + 1, .int i, h => by
    have h : i.natAbs < 10 ^ 12 := by simpa [gd] using h
    have hl := log2_small h
    refine ⟨by simp [pd, PyData.canLay0], ?_, ?_, ?_, by simp [pd, PyData.depth]⟩
    · simp only [pd, PyData.intsShort, decide_eq_true_eq]; exact int_short h
    · simp only [pd, PyData.showable, decide_eq_true_eq]; omega
    · simp only [pd, PyData.weight, wd]
      split <;> omega
  | n + 1, .str x, h => by
    have h : PyData.strOk x = true := by simpa [gd] using h
    simp [pd, PyData.canLay0, PyData.intsShort, PyData.showable, PyData.weight, PyData.depth, wd, h]
  | n + 1, .tup ds, h => by
    have h : gds n ds = true := by simpa [gd] using h
    obtain ⟨h1, h2, h3, h4, h5⟩ := gds_ok h
    refine ⟨by simpa [pd, PyData.canLay0] using h1, by simpa [pd, PyData.intsShort] using h2, by simpa [pd, PyData.showable] using h3, by simpa [pd, PyData.weight, wd] using h4, ?_⟩
    simp only [pd, PyData.depth]; omega
  | n + 1, .ls ds, h => by
    have h : gds n ds = true := by simpa [gd] using h
    obtain ⟨h1, h2, h3, h4, h5⟩ := gds_ok h
    refine ⟨by simpa [pd, PyData.canLay0] using h1, by simpa [pd, PyData.intsShort] using h2, by simpa [pd, PyData.showable] using h3, by simpa [pd, PyData.weight, wd] using h4, ?_⟩
    simp only [pd, PyData.depth]; omega
  | n + 1, .loc _, h => by simp [gd] at h
  | n + 1, .xn .., h => by simp [gd] at h
theorem gds_ok : ∀ {n : Nat} {ds : List Dv}, gds n ds = true → PyData.canLayAll0 (pds ds) = true ∧ PyData.intsShortAll 13 (pds ds) = true ∧ PyData.showableAll (pds ds) = true ∧ PyData.weightAll (pds ds) ≤ wds ds ∧ PyData.depthAll (pds ds) ≤ n
  | _, [], _ => by simp [pds, PyData.canLayAll0, PyData.intsShortAll, PyData.showableAll, PyData.weightAll, PyData.depthAll, wds]
  | n, d :: r, h => by
    have h : gd n d = true ∧ gds n r = true := by simpa [gds] using h
    obtain ⟨a1, a2, a3, a4, a5⟩ := gd_ok h.1
    obtain ⟨b1, b2, b3, b4, b5⟩ := gds_ok h.2
    refine ⟨by simp [pds, PyData.canLayAll0, a1, b1], by simp [pds, PyData.intsShortAll, a2, b2], by simp [pds, PyData.showableAll, a3, b3], ?_, ?_⟩
    · simp only [pds, PyData.weightAll, wds]; omega
    · simp only [pds, PyData.depthAll]; omega
end
theorem repr_py {d : Dv} {p : PyData} {s : Sto} (hp : pyOf s d = some p) (h1 : p.canLay0 = true) (h2 : p.intsShort 13 = true) (h3 : p.showable = true) (h4 : p.weight ≤ 2 ^ 20) (h5 : p.depth ≤ 64) : gRepr [d] s = .ok (.str p.shown) s := by
  have hl : p.shown.length ≤ 15728653 := shown_le13 (by show (PyData.canLay0 p && decide (PyData.depth p ≤ 64) && decide (PyData.weight p ≤ 2 ^ 20)) = true; rw [h1, decide_eq_true h5, decide_eq_true h4]; rfl) h2
  show (match pyOf s d with | some p => Rs.iff (p.showable && decide (p.shown.length ≤ 16777216)) (Rs.ok (Dv.str p.shown) s) | none => .bad) = _
  rw [hp]
  show Rs.iff (p.showable && decide (p.shown.length ≤ 16777216)) _ = _
  rw [h3, decide_eq_true (by omega)]; rfl
theorem repr_gd {n : Nat} {d : Dv} {s : Sto} (h : gd n d = true) (hn : n ≤ 40) (hw : wd d ≤ 2 ^ 20) : gRepr [d] s = .ok (.str (pd d).shown) s := by
  obtain ⟨h1, h2, h3, h4, h5⟩ := gd_ok h
  exact repr_py (py_gd h hn) h1 h2 h3 (by omega) (by omega)
theorem gds_all {n : Nat} : ∀ {ds : List Dv}, (∀ d ∈ ds, gd n d = true) → gds n ds = true
  | [], _ => by simp [gds]
  | d :: r, h => by
    simp only [gds, Bool.and_eq_true]
    exact ⟨h d List.mem_cons_self, gds_all fun x hx => h x (List.mem_cons_of_mem _ hx)⟩
theorem gds_map {α : Type} {n : Nat} {f : α → Dv} {xs : List α} (h : ∀ a ∈ xs, gd n (f a) = true) : gds n (xs.map f) = true := gds_all fun d hd => by
  obtain ⟨a, ha, rfl⟩ := List.mem_map.mp hd
  exact h a ha
theorem wds_map {α : Type} {f : α → Dv} {c : Nat} : ∀ {xs : List α}, (∀ a ∈ xs, wd (f a) ≤ c) → wds (xs.map f) ≤ xs.length * (c + 1)
  | [], _ => by simp [wds]
  | x :: r, h => by
    have h1 := h x List.mem_cons_self
    have h2 := wds_map (xs := r) fun y hy => h y (List.mem_cons_of_mem _ hy)
    simp only [List.map_cons, wds, List.length_cons]
    rw [Nat.add_mul, Nat.one_mul]
    omega
/-- list + list -/
def kCat2 (x : Dv) (L : List Dv → Sto → Prop) : Dv → Sto → Prop := fun y s2 => OkE nX (match seqOf s2 x, seqOf s2 y with
  | some ds, some es => Rs.iff (isL x s2 && isL y s2 && decide (ds.length + es.length ≤ 16777216)) (.ok (ds ++ es) s2)
  | _, _ => .bad) L
def kCat (g : Fn Dv) (env : En) (L : List Dv → Sto → Prop) : Dv → Sto → Prop := fun x s1 => OkE nX (g env s1) (kCat2 x L)
theorem kCat_ap {g : Fn Dv} {env : En} {L : List Dv → Sto → Prop} {x : Dv} {s : Sto} : kCat g env L x s = OkE nX (g env s) (kCat2 x L) := rfl
theorem ok_catL {f g : Fn Dv} {env : En} {s : Sto} {L : List Dv → Sto → Prop} : OkE nX (fCatL f g env s) L ↔ OkE nX (f env s) (kCat g env L) := by
  unfold fCatL; rw [ok_bind]
  exact ⟨fun h => h.mono fun _ _ h => ok_bind.mp h, fun h => h.mono fun _ _ h => ok_bind.mpr h⟩
theorem kCat2_ls {ds es : List Dv} {L : List Dv → Sto → Prop} {s : Sto} : kCat2 (.ls ds) L (.ls es) s ↔ decide (ds.length + es.length ≤ 16777216) = true ∧ L (ds ++ es) s := by
  show OkE nX (Rs.iff (true && true && _) _) L ↔ _
  rw [ok_iff]; simp only [Bool.true_and, Bool.and_self]; exact Iff.rfl
/-- xs[::-1] -/
def kRev (L : List Dv → Sto → Prop) : Dv → Sto → Prop := fun x s1 => OkE nX (match seqOf s1 x with
  | some ds => Rs.iff (isL x s1) (.ok ds.reverse s1)
  | none => .bad) L
end Z

namespace Z
open PySem PySem.Spec PyProof.Rows L2

/-! ### {k: v} -/
def kDict (T : Dv → Sto → Prop) : List (Dv × Dv) → Sto → Prop := fun ps s => ∃ kvs, keysD ps = some kvs ∧ decide (kvs.length ≤ 15) = true ∧ T (.loc s.length) (s ++ [.dk (mergeD [] kvs)])
def kPc3 (k v : Dv) (Z : List (Dv × Dv) → Sto → Prop) : List (Dv × Dv) → Sto → Prop := fun ps s => Z ((k, v) :: ps) s
def kPc2 (r : List (Fn Dv × Fn Dv)) (k : Dv) (env : En) (Z : List (Dv × Dv) → Sto → Prop) : Dv → Sto → Prop := fun v s => OkE nX (fPairs r env s) (kPc3 k v Z)
def kPc (fv : Fn Dv) (r : List (Fn Dv × Fn Dv)) (env : En) (Z : List (Dv × Dv) → Sto → Prop) : Dv → Sto → Prop := fun k s => OkE nX (fv env s) (kPc2 r k env Z)
section
variable {T : Dv → Sto → Prop} {Z : List (Dv × Dv) → Sto → Prop} {env : En} {s : Sto} {k v : Dv} {r : List (Fn Dv × Fn Dv)} {fk fv : Fn Dv} {ps : List (Dv × Dv)}
end

/-! ### the tap's beginning -/
def bTap : Fn Ct :=
  fRet (fDict [(fC (.str (Str.ofString "cells")), fVal (fCallL gList (fCons (fSl (fVar 0) (fNoPart) (fPart (fC (.int 63)))) (fNil)))), (fC (.str (Str.ofString "spot")), fC (.int 0)), (fC (.str (Str.ofString "rest")), fC (.int 0)), (fC (.str (Str.ofString "calls")), fC (.int 0))])
def TapS (φ : Phi) : Prop := ∀ ns : List Int, OkE nX (φ [.ls (ns.map .int)] []) fun d s' => ∃ t : Tap, d = .loc 0 ∧ s' = [tapOb t] ∧ t.Wf ∧ t.calls = 0
/-! ### an end of a count -/
def bEnd7a (φt : Phi) : Fn Ct := fSeq (fSet 8 (fBin gAdd (fTup (fCons (fVar 3) (fNil))) (fVar 6)))
  (fDrop (fMt isL gAppend (fVar 2) (fCons (fTup (fCons (fBin gIx (fVar 8) (fCall φt (fCons (fVar 0) (fCons (fCall gLen (fCons (fVar 8) (fNil))) (fNil))))) (fCons (fBin gAdd (fVar 7) (fCall φt (fCons (fVar 0) (fCons (fBin gAdd (fBin gSub (fBin gAdd (fVar 4) (fVar 5)) (fVar 7)) (fC (.int 1))) (fNil))))) (fNil)))) (fNil))))
def bEnd7 (φt : Phi) : Fn Ct :=
  fSeq (fSet 2 (fNew (fLst (fNil))))
  (fSeq (fFor (fSrc (fBin gIx (fVar 1) (fC (.int 1)))) (gTp 4 (gsCons (gNm 3) (gsCons (gNm 4) (gsCons (gNm 5) (gsCons (gNm 6) (gsNil)))))) (fSeq (fSet 7 (fIf (fTest (fBin gGt (fVar 4) (fVar 5))) (fBin gSub (fVar 4) (fVar 5)) (fC (.int 0))))
  (bEnd7a φt)))
  (fRet (fTup (fCons (fCall gTuple (fCons (fVar 2) (fNil))) (fCons (fCall gTuple (fCons (fVal (fLc (fSrc (fBin gIx (fVar 1) (fC (.int 2)))) [9] (gNm 9) (fYes) (fBin gIx (fVar 9) (fCall φt (fCons (fVar 0) (fCons (fCall gLen (fCons (fVar 9) (fNil))) (fNil))))))) (fNil))) (fNil))))))
structure EndOk (c : Cnt) (laid : List (Str × Int)) (ds : List Str) : Prop where
  hlaid : ∀ x ∈ laid, x.1 ∈ c.lots ∧ 0 ≤ x.2 ∧ x.2 ≤ 1010000
  nlaid : laid.length = c.piles.length
  hds : ∀ d ∈ ds, d ∈ c.lots
  nds : ds.length = c.doubts.length
theorem below_encL (n : Nat) (x : Str × Int) : below n (encL x) = true := below_tup (belows_cons rfl (belows_cons rfl rfl))
theorem below_encE (n : Nat) (laid : List (Str × Int)) (ds : List Str) : below n (encE laid ds) = true := below_tup (belows_cons (below_tup (belows_map (below_encL n) _)) (belows_cons (below_encS n _) rfl))
def EndS (φ : Phi) : Prop := ∀ (t : Tap) (r : Sto) (c : Cnt), CntOk c → t.Wf → t.calls + 1000 ≤ 1000000 → Fl r →
  OkE nX (φ [.loc 0, encC c] (tapOb t :: r)) fun d s' => ∃ (laid : List (Str × Int)) (ds : List Str) (t' : Tap), d = encE laid ds ∧ EndOk c laid ds ∧ s' = tapOb t' :: r ∧ t'.Wf ∧ t.calls ≤ t'.calls ∧ t'.calls ≤ t.calls + 1000
theorem srtS_len (xs : List Str) : (srtS xs).length = xs.length := (srtS_perm xs).length_eq
/-! ### the sums by name -/
def bSums7 : Fn Ct :=
  fSeq (fSet 2 (fNew (fLst (fNil))))
  (fSeq (fFor (fSrc (fBin gIx (fVar 0) (fC (.int 0)))) (gNm 3) (fSeq (fSet 4 (fVal (fCatL (fVal (fLc (fSrc (fBin gIx (fVar 1) (fC (.int 0)))) [5, 6] (gTp 2 (gsCons (gNm 5) (gsCons (gNm 6) (gsNil)))) (fTest (fBin gEq (fVar 5) (fVar 3))) (fVar 6))) (fVal (fLc (fSrc (fBin gIx (fVar 1) (fC (.int 1)))) [5] (gNm 5) (fTest (fBin gEq (fVar 5) (fVar 3))) (fC (.int 1)))))))
  (fDrop (fMt isL gAppend (fVar 2) (fCons (fCall gSumL (fCons (fVar 4) (fNil))) (fNil))))))
  (fRet (fCall gTuple (fCons (fVar 2) (fNil)))))
end Z

namespace Z
open PySem PySem.Spec PyProof.Rows L2

/-! ### more readings -/
section
variable {T : Dv → Sto → Prop} {S : Src → Sto → Prop} {env : En} {s : Sto} {L : List Dv → Sto → Prop} {R : Ct → Sto → Prop} {B : Bool → Sto → Prop}
def kIsi (N : String) (T : Dv → Sto → Prop) : Dv → Sto → Prop := fun x s => okX x = true ∧ T (.bl (isiB (tyD x s) N)) s
theorem kIsi_ap {N : String} {x : Dv} : kIsi N T x s = (okX x = true ∧ T (.bl (isiB (tyD x s) N)) s) := rfl
theorem ok_isi {N : String} {f : Fn Dv} : OkE nX (fIsi N f env s) T ↔ OkE nX (f env s) (kIsi N T) := by
  unfold fIsi; rw [ok_bind]
  exact ⟨fun h => h.mono fun _ _ h => ok_iff.mp h, fun h => h.mono fun _ _ h => ok_iff.mpr h⟩
def kSrcS (S : Src → Sto → Prop) : Dv → Sto → Prop := fun d s => match d with | .str z => S (charsD z, noChk) s | _ => False
def kEnum (S : Src → Sto → Prop) : List Dv → Sto → Prop := fun ds s => ∃ d src, ds = [d] ∧ srcOf d s = some src ∧ S (enumD src.1, src.2) s
theorem kEnum_tup {ds : List Dv} (h : S (enumD ds, noChk) s) : kEnum S [.tup ds] s := ⟨_, (ds, noChk), rfl, rfl, h⟩
theorem ok_enum {f : Fn (List Dv)} : OkE nX (fEnum f env s) S ↔ OkE nX (f env s) (kEnum S) := by
  unfold fEnum; rw [ok_bind]
  refine ⟨fun h => h.mono fun ds s h => ?_, fun h => h.mono fun ds s h => ?_⟩
  · split at h
    · split at h
      · rename_i e; exact ⟨_, _, rfl, e, h⟩
      · exact False.elim h
    · exact False.elim h
  · obtain ⟨d, src, rfl, e, h⟩ := h
    show OkE nX (match srcOf d s with | some src => _ | none => _) S
    rw [e]; exact h
def kZip (S : Src → Sto → Prop) : List Dv → Sto → Prop := fun ds s => ∃ d e a b, ds = [d, e] ∧ srcOf d s = some a ∧ srcOf e s = some b ∧ ((isL d s && isL e s) || (isT d s && isT e s)) = true ∧ S (zipD a.1 b.1, fun s => a.2 s && b.2 s) s
theorem ok_zip {f : Fn (List Dv)} : OkE nX (fZip f env s) S ↔ OkE nX (f env s) (kZip S) := by
  unfold fZip; rw [ok_bind]
  refine ⟨fun h => h.mono fun ds s h => ?_, fun h => h.mono fun ds s h => ?_⟩
  · split at h
    · split at h
      · rename_i e1 e2
        obtain ⟨h1, h2⟩ := ok_iff.mp h
        exact ⟨_, _, _, _, rfl, e1, e2, h1, h2⟩
      · exact False.elim h
    · exact False.elim h
  · obtain ⟨d, e, a, b, rfl, e1, e2, h1, h2⟩ := h
    show OkE nX (match srcOf d s, srcOf e s with | some a, some b => _ | _, _ => _) S
    rw [e1, e2]; exact ok_iff.mpr ⟨h1, h2⟩
def kRevI (S : Src → Sto → Prop) : Dv → Sto → Prop := fun d s => ∃ src, srcOf d s = some src ∧ S (src.1.reverse, src.2) s
def kChain3 (g' : Dv → Dv → Sto → Rs Dv) (f3 : Fn Dv) (env : En) (y : Dv) (T : Dv → Sto → Prop) : Dv → Sto → Prop := fun t s3 => match t with
  | .bl true => OkE nX (f3 env s3) (kUn nX (fun z => g' y z) T)
  | .bl false => T (.bl false) s3
  | _ => False
def kChain2 (g g' : Dv → Dv → Sto → Rs Dv) (f3 : Fn Dv) (env : En) (x : Dv) (T : Dv → Sto → Prop) : Dv → Sto → Prop := fun y s2 => OkE nX (g x y s2) (kChain3 g' f3 env y T)
def kChain (g g' : Dv → Dv → Sto → Rs Dv) (f2 f3 : Fn Dv) (env : En) (T : Dv → Sto → Prop) : Dv → Sto → Prop := fun x s1 => OkE nX (f2 env s1) (kChain2 g g' f3 env x T)
end
/-- a comprehension whose items are plain -/
theorem ok_map {own : List Nat} {g : Dv → Fn En} {tt : Fn Bool} {te : Fn Dv} {ds : List Dv} {env : En} {s : Sto} {L : List Dv → Sto → Prop} (p : Dv → Bool) (h : Dv → Dv)
    (hh : ∀ d ∈ ds, OkE nX (g d (wipeZ env own) s) fun env1 s1 => OkE nX (tt env1 s1) fun b s2 => b = p d ∧ if b = true then OkE nX (te env1 s2) fun y s3 => y = h d ∧ s3 = s else s2 = s) (hL : L ((ds.filter p).map h) s) : OkE nX (lcZ noChk own g tt te ds env s) L := by
  refine ok_lcI (fun j acc s' => acc = ((ds.take j).filter p).map h ∧ s' = s) (fun _ _ _ _ => rfl) (fun j d acc s' hd hi => ?_) (fun acc s' hi => ?_) ⟨by simp, rfl⟩
  · obtain ⟨rfl, rfl⟩ := hi
    refine (hh d (List.mem_of_getElem? hd)).mono fun env1 s1 h1 => h1.mono fun b s2 h2 => ?_
    obtain ⟨rfl, h2⟩ := h2
    rw [take_succ' hd, List.filter_append]
    cases e : p d with
    | true =>
      rw [e, if_pos rfl] at h2
      rw [if_pos rfl]
      refine h2.mono fun y s3 h3 => ?_
      obtain ⟨rfl, rfl⟩ := h3
      exact ⟨by simp [e], rfl⟩
    | false =>
      rw [e, if_neg Bool.false_ne_true] at h2
      rw [if_neg Bool.false_ne_true]
      exact ⟨by simp [e], h2⟩
  · obtain ⟨rfl, rfl⟩ := hi
    rw [List.take_length]; exact hL
theorem filter_yes {α : Type} (l : List α) : l.filter (fun _ => true) = l := List.filter_eq_self.mpr fun _ _ => rfl
theorem fin_any {s : Sto} {d : Dv} {T : Dv → Sto → Prop} (hd : ∀ n, d ≠ .loc n) (h : T d s) : OkE nX (gcZ s.length d s) T := by
  have e : gcZ s.length d s = .ok d s := by
    unfold gcZ
    split
    · rw [List.take_length]
    · cases d with
      | loc n => exact absurd rfl (hd n)
      | _ => rfl
  rw [e]; exact h
theorem all_ls {bs : List Bool} {s : Sto} : gAll [.ls (bs.map .bl)] s = .ok (.bl (bs.all id)) s := by
  have h : blsOf (bs.map .bl) = some bs := by
    induction bs with
    | nil => rfl
    | cons z r ih =>
      show (blsOf (r.map .bl)).map (z :: ·) = _
      rw [ih]; rfl
  unfold gAll gOnL
  have e : (seqOf s (.ls (bs.map .bl))).bind blsOf = some bs := h
  simp only [e]
  rfl
theorem any_ls {bs : List Bool} {s : Sto} : gAny [.ls (bs.map .bl)] s = .ok (.bl (bs.any id)) s := by
  have h : blsOf (bs.map .bl) = some bs := by
    induction bs with
    | nil => rfl
    | cons z r ih =>
      show (blsOf (r.map .bl)).map (z :: ·) = _
      rw [ih]; rfl
  unfold gAny gOnL
  have e : (seqOf s (.ls (bs.map .bl))).bind blsOf = some bs := h
  simp only [e]
  rfl
theorem ints_map (zs : List Int) : intsOf (zs.map .int) = some zs := by
  induction zs with
  | nil => rfl
  | cons z r ih =>
    show (intsOf (r.map .int)).map (z :: ·) = _
    rw [ih]; rfl
theorem sumA_ls {zs : List Int} {s : Sto} : gSum [.ls (zs.map .int)] s = .ok (.int zs.sum) s := by
  unfold gSum
  have e : (seqOf s (.ls (zs.map .int))).bind intsOf = some zs := ints_map zs
  simp only [e]
/-! ### kinds of things -/
def bNumber : Fn Ct := fRet (fAnd (fIsi "int" (fVar 0)) (fNot (fIsi "bool" (fVar 0))))
def isNumD : Dv → Bool
  | .int _ => true
  | _ => false
def isWordD : Dv → Bool
  | .str z => isWordS z
  | _ => false
def bWord : Fn Ct :=
  fSeq (fIfS (fOrT (fNotT (fTest (fIsi "str" (fVar 0)))) (fNotT (fTest (fChain gLe gLe (fC (.int 1)) (fCall gLen (fCons (fVar 0) (fNil))) (fC (.int 8)))))) (fRet (fC (.bl false))) (fNop))
  (fRet (fCall gAll (fCons (fVal (fLc (fSrcS (fVar 0)) [1] (gNm 1) (fYes) (fBin gIn (fVar 1) (fC (.str (Str.ofString "abcdefghijklmnopqrstuvwxyz")))))) (fNil))))
end Z

namespace Z
open PySem PySem.Spec PyProof.Rows L2

/-! ### ends looked at -/
def NumberS (φ : Phi) : Prop := ∀ (d : Dv) (s : Sto) (T : Dv → Sto → Prop), okX d = true → T (.bl (isNumD d)) s → OkE nX (φ [d] s) T
def WordS (φ : Phi) : Prop := ∀ (d : Dv) (s : Sto) (T : Dv → Sto → Prop), okX d = true → (∀ z, d = .str z → z.length ≤ 16777216) → T (.bl (isWordD d)) s → OkE nX (φ [d] s) T
def bAreWords (φw : Phi) : Fn Ct :=
  fRet (fAnd (fIsi "tuple" (fVar 0)) (fCall gAll (fCons (fVal (fLc (fSrc (fVar 0)) [1] (gNm 1) (fYes) (fCall φw (fCons (fVar 1) (fNil))))) (fNil))))
/-- texts that are no longer than a text may be -/
def txtOk : Dv → Bool
  | .str z => decide (z.length ≤ 16777216)
  | d => okX d
def bLaid (φn φw : Phi) : Fn Ct :=
  fRet (fAnd (fIsi "tuple" (fVar 0)) (fAnd (fBin gEq (fCall gLen (fCons (fVar 0) (fNil))) (fC (.int 2))) (fAnd (fCall φw (fCons (fBin gIx (fVar 0) (fC (.int 0))) (fNil))) (fCall φn (fCons (fBin gIx (fVar 0) (fC (.int 1))) (fNil))))))
def LaidS (φ : Phi) : Prop := ∀ (x : Str × Int) (s : Sto) (T : Dv → Sto → Prop), isWordS x.1 = true → T (.bl true) s → OkE nX (φ [encL x] s) T
def AreWordsS (φ : Phi) : Prop := ∀ (ds : List Dv) (s : Sto) (T : Dv → Sto → Prop), (∀ d ∈ ds, txtOk d = true) → ds.length < 16777216 → T (.bl (ds.all isWordD)) s → OkE nX (φ [.tup ds] s) T
def bShaped (φl φa : Phi) : Fn Ct :=
  fSeq (fIfS (fOrT (fNotT (fTest (fIsi "tuple" (fVar 0)))) (fOrT (fTest (fBin gNe (fCall gLen (fCons (fVar 0) (fNil))) (fC (.int 2)))) (fNotT (fTest (fIsi "tuple" (fBin gIx (fVar 0) (fC (.int 0)))))))) (fRet (fC (.bl false))) (fNop))
  (fRet (fAnd (fCall gAll (fCons (fVal (fLc (fSrc (fBin gIx (fVar 0) (fC (.int 0)))) [1] (gNm 1) (fYes) (fCall φl (fCons (fVar 1) (fNil))))) (fNil))) (fCall φa (fCons (fBin gIx (fVar 0) (fC (.int 1))) (fNil)))))
def bLeast : Fn Ct := fRet (fCall (gTwo fun i j => if j > i then j else i) (fCons (fC (.int 0)) (fCons (fBin gSub (fBin gIx (fVar 0) (fC (.int 1))) (fBin gIx (fVar 0) (fC (.int 2)))) (fNil))))
def bGreat : Fn Ct := fRet (fBin gAdd (fBin gIx (fVar 0) (fC (.int 1))) (fBin gIx (fVar 0) (fC (.int 2))))
def Pil.least (p : Pil) : Int := if p.many - p.slip > 0 then p.many - p.slip else 0
def LeastS (φ : Phi) : Prop := ∀ (p : Pil) (s : Sto) (T : Dv → Sto → Prop), T (.int p.least) s → OkE nX (φ [encP p] s) T
def GreatS (φ : Phi) : Prop := ∀ (p : Pil) (s : Sto) (T : Dv → Sto → Prop), T (.int (p.many + p.slip)) s → OkE nX (φ [encP p] s) T
theorem two_ok {g : Int → Int → Int} {i j : Int} {s : Sto} : gTwo g [.int i, .int j] s = .ok (.int (g i j)) s := rfl
def bFaultN (φl φg : Phi) : Fn Ct := fIfS (fNotT (fTest (fChain gLe gLe (fCall φl (fCons (fVar 5) (fNil))) (fBin gIx (fBin gIx (fVar 2) (fVar 4)) (fC (.int 1))) (fCall φg (fCons (fVar 5) (fNil)))))) (fRet (fTup (fCons (fC (.str (Str.ofString "number"))) (fCons (fVar 4) (fNil))))) (fNop)
def bFault (φl φg : Phi) : Fn Ct :=
  fSeq (fAsg (fVar 1) (gTp 2 (gsCons (gNm 2) (gsCons (gNm 3) (gsNil)))))
  (fSeq (fIfS (fTest (fBin gNe (fCall gLen (fCons (fVar 2) (fNil))) (fCall gLen (fCons (fBin gIx (fVar 0) (fC (.int 1))) (fNil))))) (fRet (fTup (fCons (fC (.str (Str.ofString "piles"))) (fCons (fUn gNeg (fC (.int 1))) (fNil))))) (fNop))
  (fSeq (fFor (fEnum (fCons (fBin gIx (fVar 0) (fC (.int 1))) (fNil))) (gTp 2 (gsCons (gNm 4) (gsCons (gNm 5) (gsNil)))) (fSeq (fIfS (fAndT (fTest (fBin gNe (fBin gIx (fBin gIx (fVar 2) (fVar 4)) (fC (.int 0))) (fBin gIx (fVar 5) (fC (.int 0))))) (fTest (fBin gNotIn (fBin gIx (fBin gIx (fVar 2) (fVar 4)) (fC (.int 0))) (fBin gIx (fVar 5) (fC (.int 3)))))) (fRet (fTup (fCons (fC (.str (Str.ofString "name"))) (fCons (fVar 4) (fNil))))) (fNop))
  (bFaultN φl φg)))
  (fSeq (fIfS (fTest (fBin gNe (fCall gLen (fCons (fVar 3) (fNil))) (fCall gLen (fCons (fBin gIx (fVar 0) (fC (.int 2))) (fNil))))) (fRet (fTup (fCons (fC (.str (Str.ofString "doubts"))) (fCons (fUn gNeg (fC (.int 1))) (fNil))))) (fNop))
  (fSeq (fFor (fEnum (fCons (fBin gIx (fVar 0) (fC (.int 2))) (fNil))) (gTp 2 (gsCons (gNm 4) (gsCons (gNm 6) (gsNil)))) (fIfS (fTest (fBin gNotIn (fBin gIx (fVar 3) (fVar 4)) (fVar 6))) (fRet (fTup (fCons (fC (.str (Str.ofString "given"))) (fCons (fVar 4) (fNil))))) (fNop)))
  (fRet (fC .non))))))
/-- an end that the count lets pass -/
structure Fits (c : Cnt) (laid : List (Str × Int)) (ds : List Str) : Prop where
  nl : laid.length = c.piles.length
  nd : ds.length = c.doubts.length
  name : ∀ (i : Nat) (x : Str × Int) (p : Pil), laid[i]? = some x → c.piles[i]? = some p → x.1 = p.name ∨ x.1 ∈ p.others
  num : ∀ (i : Nat) (x : Str × Int) (p : Pil), laid[i]? = some x → c.piles[i]? = some p → p.least ≤ x.2 ∧ x.2 ≤ p.many + p.slip
  dbt : ∀ (i : Nat) (x : Str) (d : List Str), ds[i]? = some x → c.doubts[i]? = some d → x ∈ d
theorem in_strs {x : Str} {xs : List Str} {s : Sto} : gIn (.str x) (encS xs) s = .ok (.bl (decide (x ∈ xs))) s := by
  have h : (xs.map Dv.str).mapM fV = some (xs.map V.str) := mapM_map (g := fV) (f := Dv.str) (h := V.str) (xs := xs) fun y _ => rfl
  show (match fV (.str x), (seqOf s (.tup (xs.map .str))).bind (·.mapM fV) with | some v, some vs => Rs.ok (Dv.bl (inV v vs)) s | _, _ => .bad) = _
  have e : (seqOf s (.tup (xs.map .str))).bind (·.mapM fV) = some (xs.map V.str) := h
  rw [e]
  show Rs.ok (Dv.bl (inV (.str x) (xs.map V.str))) s = _
  have e2 : inV (.str x) (xs.map V.str) = decide (x ∈ xs) := by
    unfold inV
    rw [List.any_map]
    rw [Bool.eq_iff_iff, List.any_eq_true, decide_eq_true_eq]
    constructor
    · rintro ⟨y, hy, e⟩
      have : y = x := by simpa [eqV] using e
      rw [← this]; exact hy
    · intro hx
      exact ⟨x, hx, by simp [eqV]⟩
  rw [e2]
theorem notin_strs {x : Str} {xs : List Str} {s : Sto} : gNotIn (.str x) (encS xs) s = .ok (.bl (!decide (x ∈ xs))) s := by
  show (gIn (.str x) (encS xs) s).bind _ = _
  rw [in_strs]; rfl
theorem ix_tupN {ds : List Dv} {i : Nat} {d : Dv} {s : Sto} (h : ds[i]? = some d) : gIx (.tup ds) (.int (i : Nat)) s = .ok d s := ix_tup (Int.natCast_nonneg i) (by rw [Int.toNat_natCast]; exact h)
/-! ### the end as told -/
def bTold : Fn Ct :=
  fRet (fTup (fCons (fCall gTuple (fCons (fVal (fLc (fSrc (fBin gIx (fVar 0) (fC (.int 1)))) [1] (gNm 1) (fYes) (fSl (fVar 1) (fNoPart) (fPart (fC (.int 2)))))) (fNil))) (fCons (fCall gTuple (fCons (fVal (fLc (fSrc (fBin gIx (fVar 0) (fC (.int 2)))) [2] (gNm 2) (fYes) (fBin gIx (fVar 2) (fC (.int 0))))) (fNil))) (fNil))))
def toldL (c : Cnt) : List (Str × Int) := c.piles.map fun p => (p.name, p.many)
def toldD (c : Cnt) : List Str := c.doubts.map fun d => d.headD (Str.ofString "")
def ToldS (φ : Phi) : Prop := ∀ (c : Cnt) (s : Sto) (T : Dv → Sto → Prop), c.piles.length < 1000 → c.doubts.length < 1000 → (∀ d ∈ c.doubts, d ≠ []) → T (encE (toldL c) (toldD c)) s → OkE nX (φ [encC c] s) T
/-! ### an end let pass -/
def bLets (φs φf φy : Phi) : Fn Ct :=
  fSeq (fIfS (fNotT (fTest (fCall φs (fCons (fVar 1) (fNil))))) (fNever) (fNop))
  (fSeq (fSet 2 (fCall φf (fCons (fVar 0) (fCons (fVar 1) (fNil)))))
  (fSeq (fIfS (fTest (fBin gIsNot (fVar 2) (fC .non))) (fNever) (fNop))
  (fRet (fCall φy (fCons (fVar 0) (fCons (fVar 1) (fNil)))))))
def ShapedS (φ : Phi) : Prop := ∀ (laid : List (Str × Int)) (ds : List Str) (s : Sto) (T : Dv → Sto → Prop), (∀ x ∈ laid, isWordS x.1 = true) → (∀ x ∈ ds, isWordS x = true) → laid.length < 16777216 → ds.length < 16777216 → T (.bl true) s → OkE nX (φ [encE laid ds] s) T
def FaultS (φ : Phi) : Prop := ∀ (c : Cnt) (laid : List (Str × Int)) (ds : List Str) (s : Sto) (T : Dv → Sto → Prop), Fits c laid ds → T .non s → OkE nX (φ [encC c, encE laid ds] s) T
theorem Fits.ends {c : Cnt} (hc : CntOk c) {laid : List (Str × Int)} {ds : List Str} (hf : Fits c laid ds) : (∀ x ∈ laid, x.1 ∈ c.lots) ∧ ∀ x ∈ ds, x ∈ c.lots := by
  refine ⟨fun x hx => ?_, fun x hx => ?_⟩
  · obtain ⟨i, hi⟩ := List.getElem?_of_mem hx
    have hl : i < c.piles.length := by rw [← hf.nl]; exact (List.getElem?_eq_some_iff.mp hi).1
    have hp := List.getElem?_eq_getElem hl
    have hm := List.getElem_mem hl
    rcases hf.name i x _ hi hp with e | e
    · rw [e]; exact (hc.piles _ hm).name
    · rcases (hc.piles _ hm).others with q | ⟨ws, q, h1, _⟩
      · rw [q] at e; cases e
      · rw [q] at e; exact h1.subset ((srtS_perm ws).mem_iff.mp e)
  · obtain ⟨i, hi⟩ := List.getElem?_of_mem hx
    have hl : i < c.doubts.length := by rw [← hf.nd]; exact (List.getElem?_eq_some_iff.mp hi).1
    have hp := List.getElem?_eq_getElem hl
    have e := hf.dbt i x _ hi hp
    obtain ⟨ws, q, h1, _⟩ := hc.doubts _ (List.getElem_mem hl)
    rw [q] at e
    exact h1.subset ((srtS_perm ws).mem_iff.mp e)
end Z

namespace Z
open PySem PySem.Spec PyProof.Rows L2
theorem gd_encS {n : Nat} {xs : List Str} (h : ∀ x ∈ xs, PyData.strOk x = true) : gd (n + 2) (encS xs) = true := by
  show gds (n + 1) (xs.map .str) = true
  exact gds_map fun x hx => h x hx
theorem wd_encS {xs : List Str} {k : Nat} (h : ∀ x ∈ xs, isWordS x = true) (hk : xs.length ≤ k) : wd (encS xs) ≤ k * 9 := by
  have := wds_map (f := Dv.str) (c := 8) (xs := xs) fun x hx => (word_ok (h x hx)).2
  show wds (xs.map .str) ≤ _
  have h2 : xs.length * (8 + 1) ≤ k * 9 := Nat.mul_le_mul_right _ hk
  omega
theorem CntOk.oth {c : Cnt} (hc : CntOk c) {p : Pil} (hp : p ∈ c.piles) : p.others.length ≤ 2 ∧ ∀ x ∈ p.others, x ∈ c.lots := by
  rcases (hc.piles p hp).others with e | ⟨ws, e, h1, h2, h3⟩
  · rw [e]; exact ⟨by decide, fun x hx => by cases hx⟩
  · rw [e, srtS_len]; exact ⟨h3, fun x hx => h1.subset ((srtS_perm ws).mem_iff.mp hx)⟩
theorem CntOk.dbt {c : Cnt} (hc : CntOk c) {d : List Str} (hd : d ∈ c.doubts) : 1 ≤ d.length ∧ d.length ≤ 6 ∧ ∀ x ∈ d, x ∈ c.lots := by
  obtain ⟨ws, e, q1, q2⟩ := hc.doubts d hd
  rw [e, srtS_len]
  exact ⟨List.length_pos_iff.mpr q2, Nat.le_trans q1.length_le hc.len6, fun x hx => q1.subset ((srtS_perm ws).mem_iff.mp hx)⟩
/-! ### told ends -/
/-! ### counts and ends, folded -/
theorem gTp_C {h : List Dv → Fn En} {c : Cnt} {env : En} {s : Sto} : gTp 3 h (encC c) env s = h [encS c.lots, .tup (c.piles.map encP), .tup (c.doubts.map encS)] env s := rfl
theorem gTp_P {h : List Dv → Fn En} {p : Pil} {env : En} {s : Sto} : gTp 4 h (encP p) env s = h [.str p.name, .int p.many, .int p.slip, encS p.others] env s := rfl
section
variable {c : Cnt} {p : Pil} {l : List (Str × Int)} {ds : List Str} {x : Str × Int} {s : Sto}
theorem ixC0 : gIx (encC c) (.int 0) s = .ok (encS c.lots) s := ix_first
theorem ixC1 : gIx (encC c) (.int 1) s = .ok (.tup (c.piles.map encP)) s := ix_second
theorem ixC2 : gIx (encC c) (.int 2) s = .ok (.tup (c.doubts.map encS)) s := ix_third
theorem ixP1 : gIx (encP p) (.int 1) s = .ok (.int p.many) s := ix_second
theorem ixP2 : gIx (encP p) (.int 2) s = .ok (.int p.slip) s := ix_third
theorem len_encS : gLen [encS ds] s = .ok (.int ds.length) s := by
  show Rs.ok (Dv.int ((ds.map Dv.str).length : Nat)) s = _
  rw [List.length_map]
end
end Z

namespace Z
open PySem PySem.Spec L2

/-! ### the feed -/
structure Feed where
  cells : List Int
  spot : Int
  rest : Int
  calls : Int
def feedOb (f : Feed) : Ob := .lst [.ls (f.cells.map .int), .int f.spot, .int f.rest, .int f.calls]
section
variable {f : Feed} {r : Sto} {i : Int}
theorem fp_1 : gPut (.loc 0) (.int 1) (.int i) (feedOb f :: r) = .ok () (feedOb { f with spot := i } :: r) := by rfl
theorem fp_2 : gPut (.loc 0) (.int 2) (.int i) (feedOb f :: r) = .ok () (feedOb { f with rest := i } :: r) := by rfl
theorem fp_3 : gPut (.loc 0) (.int 3) (.int i) (feedOb f :: r) = .ok () (feedOb { f with calls := i } :: r) := by rfl
end
structure Feed.Wf (f : Feed) : Prop where
  c0 : 0 ≤ f.calls
  r0 : 0 ≤ f.rest
  s0 : 0 ≤ f.spot
def bSource : Fn Ct := fRet (fNew (fLst (fCons (fSl (fVar 0) (fNoPart) (fPart (fC (.int 63)))) (fCons (fC (.int 0)) (fCons (fC (.int 0)) (fCons (fC (.int 0)) (fNil)))))))
def finN (T : Dv → Sto → Prop) : Ct → Sto → Prop
  | .next _, s => T .non s
  | .ret d, s => T d s
  | _, _ => False
theorem finN_ret {T : Dv → Sto → Prop} {d : Dv} {s : Sto} : finN T (.ret d) s = T d s := rfl
theorem ok_defN {n m : Nat} {body : Fn Ct} {ds : List Dv} {s : Sto} {T : Dv → Sto → Prop} : OkE nX (fDefN n m body ds s) T ↔ (ds.length == n) = true ∧ OkE nX (body (ds.map some ++ List.replicate (m - n) none) s) (finN T) := by
  unfold fDefN
  rw [ok_iff, ok_bind]
  refine and_congr_right fun _ => ?_
  cases body (ds.map some ++ List.replicate (m - n) none) s with
  | ok c s1 => cases c <;> exact Iff.rfl
  | _ => exact Iff.rfl
def SourceS (φ : Phi) : Prop := ∀ ns : List Int, OkE nX (φ [.ls (ns.map .int)] []) fun d s' => ∃ f : Feed, d = .loc 0 ∧ s' = [feedOb f] ∧ f.Wf ∧ f.calls = 0
theorem source_spec : SourceS (fDefN 1 1 bSource) := by
  intro ns
  rw [ok_defN]
  refine ⟨rfl, ?_⟩
  unfold bSource
  have h : cutD (ns.map Dv.int) none (some 63) = (ns.take 63).map Dv.int := by rw [cut_take (by decide), List.map_take]; rfl
  have e : ∀ s : Sto, gSl (.ls (ns.map Dv.int)) none (some 63) s = .ok (.ls ((ns.take 63).map Dv.int)) s := fun s => by
    show Rs.ok (Dv.ls (cutD (ns.map Dv.int) none (some 63))) s = _
    rw [h]
  simp only [Y1, Qf, Qt, Qu, Qa, Qg, Qv, Qw, Qx, Qy, Qh, Qz, Jy, Qi, Qb, Qj, Qk, Q0, Jz, Q1, Q2, J0, Q3, Q4, J1, Ql, Qm, Qn, Q5, Qo, Q6, Qp, Q7, Q8, J2, Q9, Ja, J3, J4, J5, Jb, J6, J7, Jc, J8, J9, Jd, Je, Ya, Jf, Yb, Jg, Jh, Y8, Yc, Ji, Yd, Ye, Yf, Yg, Yh, Y2, Jj, Qq, Jk, Yi, Jl, Jm, Yj, Y3, Yk, Yl, Y4, Ym, Y5, Yn, Qc, Yo, Jn, Yp, Yq, Y6, Yr, Qd, Jo, Jp, Y7, Ys, Yt, Yu, Yv, Yw, Yx, Jq, Jr, Qr, Js, Yy, Qe, Qs, List.set_cons_zero, List.set_cons_succ, List.map_cons, List.map_nil, List.replicate, List.cons_append, List.nil_append, List.length_cons, List.length_nil, Bool.false_eq_true, eq_self, if_true, if_false, Nat.zero_add, Jt, Yz, Ju, Jv, Jw, Y0, Jx, true_and, e, finN_ret]
  refine ⟨rfl, ?_⟩
  exact ⟨⟨ns.take 63, 0, 0, 0⟩, rfl, ⟨Int.le_refl _, Int.le_refl _, Int.le_refl _⟩, rfl⟩
def bDrawE : Fn Ct :=
  (fSeq (fSet 4 (fBin gMod (fBin gPow (fBin gAdd (fBin gAdd (fBin gMod (fVar 3) (fC (.int 2147483629))) (fBin gMul (fC (.int 6007)) (fBin gIx (fVar 0) (fC (.int 3))))) (fC (.int 19))) (fC (.int 5))) (fC (.int 2147483587))))
  (fRet (fBin gMod (fBin gDiv (fBin gMod (fBin gPow (fBin gAdd (fVar 4) (fBin gMul (fC (.int 7927)) (fBin gIx (fVar 0) (fC (.int 3))))) (fC (.int 5))) (fC (.int 2147483549))) (fC (.int 8))) (fVar 1))))
def bDrawM : Fn Ct :=
  (fSeq (fPut (fVar 0) (fC (.int 1)) (fBin gAdd (fBin gIx (fVar 0) (fC (.int 1))) (fC (.int 1))))
  (fSeq (fIfS (fAndT (fTest (fBin gGe (fVar 3) (fBin gPow (fC (.int 10)) (fC (.int 18))))) (fTest (fBin gLe (fBin gIx (fVar 0) (fC (.int 1))) (fCall gLen (fCons (fBin gIx (fVar 0) (fC (.int 0))) (fNil)))))) (fSeq (fPut (fVar 0) (fC (.int 2)) (fBin gDiv (fVar 3) (fVar 1)))
  (fRet (fBin gMod (fVar 3) (fVar 1)))) (fNop))
  bDrawE))
def bDraw : Fn Ct :=
  fSeq (fPut (fVar 0) (fC (.int 3)) (fBin gAdd (fBin gIx (fVar 0) (fC (.int 3))) (fC (.int 1))))
  (fSeq (fIfS (fTest (fBin gGt (fBin gIx (fVar 0) (fC (.int 2))) (fC (.int 0)))) (fSeq (fSet 2 (fBin gMod (fBin gIx (fVar 0) (fC (.int 2))) (fVar 1)))
  (fSeq (fPut (fVar 0) (fC (.int 2)) (fBin gDiv (fBin gIx (fVar 0) (fC (.int 2))) (fVar 1)))
  (fRet (fVar 2)))) (fNop))
  (fSeq (fSet 3 (fIf (fTest (fBin gNe (fBin gIx (fVar 0) (fC (.int 0))) (fVal (fLst (fNil))))) (fBin gIx (fBin gIx (fVar 0) (fC (.int 0))) (fBin gMod (fBin gIx (fVar 0) (fC (.int 1))) (fCall gLen (fCons (fBin gIx (fVar 0) (fC (.int 0))) (fNil))))) (fC (.int 0))))
  bDrawM))
def DrawS (φ : Phi) : Prop := ∀ (f : Feed) (r : Sto) (m : Int), f.Wf → f.calls < 1000000 → 1 ≤ m → m < 2 ^ 60 → Fl r → OkE nX (φ [.loc 0, .int m] (feedOb f :: r)) fun d s' => ∃ (x : Int) (f' : Feed), d = .int x ∧ 0 ≤ x ∧ x < m ∧ s' = feedOb f' :: r ∧ f'.Wf ∧ f'.calls = f.calls + 1
theorem Fl.feed {f : Feed} {r : Sto} (h : Fl r) : Fl (feedOb f :: r) := fun o ho => by
  rcases List.mem_cons.mp ho with z | z
  · subst z
    show belows 0 [.ls (f.cells.map .int), .int f.spot, .int f.rest, .int f.calls] = true
    exact belows_cons (below_ls (belows_ints _ _)) rfl
  · exact h o z
theorem fin_feed {t : Feed} {r l : Sto} {d : Dv} {T : Dv → Sto → Prop} (hf : Fl r) (hd : below 0 d = true) (h : T d (feedOb t :: r)) : OkE nX (gcZ (r.length + 1) d (feedOb t :: (r ++ l))) T :=
  ok_gc (b := feedOb t :: r) rfl hf.feed (below_mono (Nat.zero_le _) hd) h
theorem fin_feed0 {t : Feed} {r : Sto} {d : Dv} {T : Dv → Sto → Prop} (hf : Fl r) (hd : below 0 d = true) (h : T d (feedOb t :: r)) : OkE nX (gcZ (r.length + 1) d (feedOb t :: r)) T :=
  ok_gc0 (b := feedOb t :: r) rfl hf.feed (below_mono (Nat.zero_le _) hd) h
end Z

namespace Z
open PySem PySem.Spec L2

/-! ### errors, plainly -/
section
variable {α : Type} {Ex : Dv → Sto → Prop} {T : Dv → Sto → Prop} {L : List Dv → Sto → Prop} {R : Ct → Sto → Prop} {B : Bool → Sto → Prop} {P : α → Sto → Prop} {env : En} {s : Sto}
def kRaise (Ex : Dv → Sto → Prop) (cn : Nat) : List Dv → Sto → Prop := fun ds s1 => (ds.length == (fldN cn).length) = true ∧ Ex (.xn 0 0 cn ds) s1
/-- an error leaves a def -/
def kOut (Ex : Dv → Sto → Prop) (b : Nat) : Dv → Sto → Prop := fun e s1 => (below b e && keepsZ b s1) = true ∧ Ex e (s1.take b)
/-- what a try's suite does with the error -/
def kTry (ct : Nat → Bool) (i : Nat) (gs : Addr → Addr → Nat → Fn Ct) (env : En) (R : Ct → Sto → Prop) : Dv → Sto → Prop := fun e s1 => ∃ a d c fs r s2, e = .xn a d c fs ∧ (decide (c < 9) && ct c) = true ∧ (∀ a dd, OkE nX (gs a dd c (env.set i (some (.xn a dd c fs))) s1) fun c2 s3 => unC i c2 = r ∧ s3 = s2) ∧ R r s2
def kIsx (a dd : Addr) (cn : Nat) (b : Bool) (T : Dv → Sto → Prop) : Dv → Sto → Prop := fun d s => ∃ fs, gErr a dd cn d = some fs ∧ T (.bl b) s
def kFldX (a dd : Addr) (cn : Nat) (f : Str) (T : Dv → Sto → Prop) : Dv → Sto → Prop := fun d s => ∃ fs j x, gErr a dd cn d = some fs ∧ (fldN cn).findIdx? (· == f) = some j ∧ fs[j]? = some x ∧ T x s
def kIsiT (Ts : List String) (T : Dv → Sto → Prop) : Dv → Sto → Prop := fun x s => okX x = true ∧ T (.bl (isiAny (tyD x s) Ts)) s
theorem kIsiT_ap {Ts : List String} {x : Dv} : kIsiT Ts T x s = (okX x = true ∧ T (.bl (isiAny (tyD x s) Ts)) s) := rfl
theorem ok_isiT {Ts : List String} {f : Fn Dv} : OkE Ex (fIsiT Ts f env s) T ↔ OkE Ex (f env s) (kIsiT Ts T) := by
  unfold fIsiT; rw [ok_bind]
  exact ⟨fun h => h.mono fun _ _ h => ok_iff.mp h, fun h => h.mono fun _ _ h => ok_iff.mpr h⟩
def kSumS2 (x : Dv) (T : Dv → Sto → Prop) : Dv → Sto → Prop := fun i s => ∃ (j : Int) (ns : List Int), i = .int j ∧ (seqOf s x).bind intsOf = some ns ∧ isL x s = true ∧ T (.int (j + ns.sum)) s
def kSumS (Ex : Dv → Sto → Prop) (g : Fn Dv) (env : En) (T : Dv → Sto → Prop) : Dv → Sto → Prop := fun x s => OkE Ex (g env s) (kSumS2 x T)
theorem ok_gTpL {n k : Nat} {h : List Dv → Fn En} {ds : List Dv} {E : En → Sto → Prop} (hs : s[k]? = some (.lst ds)) : OkE Ex (gTpL n h (.loc k) env s) E ↔ (ds.length == n) = true ∧ OkE Ex (h ds env s) E := by
  have e1 : seqOf s (.loc k) = some ds := by show (match s[k]? with | some (.lst ds) => some ds | _ => none) = _; rw [hs]
  have e2 : isL (.loc k) s = true := isL_loc hs
  unfold gTpL
  rw [e1]
  show OkE Ex (Rs.iff (isL (.loc k) s && ds.length == n) (h ds env s)) E ↔ _
  rw [e2, ok_iff, Bool.true_and]
end

/-! ### dicts by names -/
def nmKv (ns : List Str) (v : Str → Int) : List (Key × Dv) := ns.map fun n => (.inr n, .int (v n))
theorem pairs_nm (ns : List Str) (v : Str → Int) : pairsD (ns.map fun n => Dv.tup [.str n, .int (v n)]) = some (nmKv ns v) := by
  induction ns with
  | nil => rfl
  | cons n r ih =>
    show (match keyD (.str n), pairsD (r.map fun n => Dv.tup [.str n, .int (v n)]) with | some k', some r' => some ((k', Dv.int (v n)) :: r') | _, _ => none) = _
    rw [ih]; rfl
theorem any_nm {ns : List Str} {v : Str → Int} {z : Str} : ((nmKv ns v).any fun kv => decide (kv.1 = (.inr z : Key))) = decide (z ∈ ns) := by
  unfold nmKv
  rw [List.any_map]
  induction ns with
  | nil => rfl
  | cons n r ih =>
    rw [List.any_cons, ih]
    have e : ((fun kv : Key × Dv => decide (kv.1 = (.inr z : Key))) ∘ fun n => ((.inr n : Key), Dv.int (v n))) n = decide (z = n) := by
      show decide ((.inr n : Key) = .inr z) = _
      exact decide_eq_decide.mpr ⟨fun h => (Sum.inr.inj h).symm, fun h => by rw [h]⟩
    rw [e]
    by_cases h1 : z = n <;> by_cases h2 : z ∈ r <;> simp [h1, h2]
theorem merge_nm (v : Str → Int) : ∀ {more ns : List Str}, (ns ++ more).Nodup → mergeD (nmKv ns v) (nmKv more v) = nmKv (ns ++ more) v
  | [], ns, _ => by rw [List.append_nil]; rfl
  | m :: r, ns, h => by
    have hm : m ∉ ns := fun hm => (List.nodup_append.mp h).2.2 m hm m List.mem_cons_self rfl
    have e : putD (nmKv ns v) (.inr m) (.int (v m)) = nmKv (ns ++ [m]) v := by
      unfold putD
      rw [any_nm, decide_eq_false hm]
      show nmKv ns v ++ [_] = _
      unfold nmKv; rw [List.map_append]; rfl
    show mergeD (putD (nmKv ns v) (.inr m) (.int (v m))) (nmKv r v) = _
    rw [e]
    have h2 : (ns ++ [m] ++ r).Nodup := by rw [List.append_assoc]; exact h
    rw [merge_nm v h2, List.append_assoc]; rfl
theorem look_nm {ns : List Str} {v : Str → Int} {z : Str} (h : z ∈ ns) : lookK (nmKv ns v) (.inr z) = some (.int (v z)) := by
  show ((nmKv ns v).find? fun kv => decide (kv.1 = (.inr z : Key))).map (·.2) = _
  unfold nmKv
  induction ns with
  | nil => cases h
  | cons n r ih =>
    rw [List.map_cons, List.find?_cons]
    by_cases e : n = z
    · subst e; simp
    · rw [show decide ((.inr n : Key) = .inr z) = false from decide_eq_false fun h => e (Sum.inr.inj h)]
      exact ih ((List.mem_cons.mp h).resolve_left fun h => e h.symm)
theorem put_nm {ns : List Str} {v : Str → Int} {z : Str} {w : Int} (h : z ∈ ns) : putD (nmKv ns v) (.inr z) (.int w) = nmKv ns fun n => if n = z then w else v n := by
  unfold putD
  rw [any_nm, decide_eq_true h, if_pos rfl]
  unfold nmKv
  rw [List.map_map]
  refine List.map_congr_left fun n _ => ?_
  show (if (.inr n : Key) = .inr z then ((.inr n : Key), Dv.int w) else (.inr n, .int (v n))) = ((.inr n : Key), Dv.int (if n = z then w else v n))
  by_cases e : n = z
  · rw [if_pos (by rw [e]), if_pos e]
  · rw [if_neg (fun h => e (Sum.inr.inj h)), if_neg e]
theorem dict_nm {ns : List Str} {v : Str → Int} {s : Sto} (h : ns.Nodup) : gDictP [.ls (ns.map fun n => Dv.tup [.str n, .int (v n)])] s = .ok (.loc s.length) (s ++ [Ob.dk (nmKv ns v)]) := by
  show (match pairsD (ns.map fun n => Dv.tup [.str n, .int (v n)]) with | some kvs => Rs.ok (Dv.loc s.length) (s ++ [Ob.dk (mergeD [] kvs)]) | none => .bad) = _
  rw [pairs_nm]
  show Rs.ok (Dv.loc s.length) (s ++ [Ob.dk (mergeD [] (nmKv ns v))]) = _
  rw [show mergeD [] (nmKv ns v) = nmKv ns v from merge_nm v (ns := []) h]
theorem ix_nm {ns : List Str} {v : Str → Int} {z : Str} {n : Nat} {s : Sto} (hs : s[n]? = some (.dk (nmKv ns v))) (h : z ∈ ns) : gIx (.loc n) (.str z) s = .ok (.int (v z)) s := by
  show (match s[n]?, Dv.str z with | some (.lst ds), .int i => (match atI ds i with | some d => _ | none => _) | some (.dk kvs), .int i => _ | some (.dk kvs), .str z => (match lookK kvs (.inr z) with | some d => Rs.ok d s | none => Rs.bad) | _, _ => _) = _
  rw [hs]
  show (match lookK (nmKv ns v) (.inr z) with | some d => Rs.ok d s | none => .bad) = _
  rw [look_nm h]
theorem put_nmS {ns : List Str} {v : Str → Int} {z : Str} {w : Int} {n : Nat} {s : Sto} (hs : s[n]? = some (.dk (nmKv ns v))) (hl : ns.length < 16777216) (h : z ∈ ns) : gPut (.loc n) (.str z) (.int w) s = .ok () (s.set n (.dk (nmKv ns fun n => if n = z then w else v n))) := by
  show (match s[n]? with | some (.lst ds) => _ | some (.dk kvs) => (match keyD (.str z) with | some k => Rs.iff (decide (kvs.length < 16777216)) (.ok () (s.set n (.dk (putD kvs k (.int w))))) | none => .bad) | _ => .bad) = _
  rw [hs]
  show Rs.iff (decide ((nmKv ns v).length < 16777216)) (Rs.ok () (s.set n (.dk (putD (nmKv ns v) (.inr z) (.int w))))) = _
  rw [decide_eq_true (by unfold nmKv; rw [List.length_map]; exact hl), put_nm h]; rfl
theorem Fl.nm {ns : List Str} {v : Str → Int} : Fl [.dk (nmKv ns v)] := fun o ho => by
  rw [List.mem_singleton.mp ho]
  show (nmKv ns v).all (fun p => below 0 p.2) = true
  unfold nmKv
  rw [List.all_map]
  exact List.all_eq_true.mpr fun _ _ => rfl
end Z

namespace Z
open PySem PySem.Spec L2

/-! ### steps of use to all -/
theorem ok_pick {α : Type} {own : List Nat} {i : Nat} {tt : Fn Bool} {te : Fn Dv} {enc f : α → Dv} {p : α → Bool} {xs : List α} {env : En} {s : Sto} {L : List Dv → Sto → Prop}
    (hh : ∀ x ∈ xs, OkE nX (tt ((wipeZ env own).set i (some (enc x))) s) fun b s2 => b = p x ∧ s2 = s ∧ (b = true → OkE nX (te ((wipeZ env own).set i (some (enc x))) s) fun y s3 => y = f x ∧ s3 = s)) (hL : L ((xs.filter p).map f) s) : OkE nX (lcZ noChk own (gNm i) tt te (xs.map enc) env s) L := by
  refine ok_lcI (fun j acc s' => acc = ((xs.take j).filter p).map f ∧ s' = s) (fun _ _ _ _ => rfl) (fun j d acc s' hd hi => ?_) (fun acc s' hi => ?_) ⟨by simp, rfl⟩
  · obtain ⟨rfl, rfl⟩ := hi
    rw [List.getElem?_map] at hd
    obtain ⟨x, hx, rfl⟩ := Option.map_eq_some_iff.mp hd
    rw [Ys]
    refine (hh x (List.mem_of_getElem? hx)).mono fun b s2 h => ?_
    obtain ⟨rfl, rfl, h⟩ := h
    cases e : p x with
    | true =>
      rw [if_pos rfl]
      refine (h e).mono fun y s3 h => ?_
      obtain ⟨rfl, rfl⟩ := h
      exact ⟨by rw [take_succ' hx]; simp [e], rfl⟩
    | false =>
      rw [if_neg Bool.false_ne_true]
      exact ⟨by rw [take_succ' hx]; simp [e], rfl⟩
  · obtain ⟨rfl, rfl⟩ := hi
    rw [List.length_map, List.take_length]; exact hL
theorem add_tupD {a b : List Dv} {s : Sto} (h : a.length + b.length ≤ 16777216) : gAdd (.tup a) (.tup b) s = .ok (.tup (a ++ b)) s := by
  show Rs.iff (decide (a.length + b.length ≤ 16777216)) _ = _
  rw [decide_eq_true h]; rfl
theorem sl_take {ds : List Dv} {k : Nat} {s : Sto} : gSl (.tup ds) none (some (k : Int)) s = .ok (.tup (ds.take k)) s := by
  show Rs.ok (Dv.tup (cutD ds none (some (k : Int)))) s = _
  rw [cut_take (Int.natCast_nonneg k)]; rfl
theorem sl_drop {ds : List Dv} {k : Nat} {s : Sto} (h : k ≤ ds.length) : gSl (.tup ds) (some (k : Int)) none s = .ok (.tup (ds.drop k)) s := by
  show Rs.ok (Dv.tup (cutD ds (some (k : Int)) none)) s = _
  unfold cutD
  rw [HT.sIx_nat, HT.sIx_none, Nat.min_eq_left h, List.take_of_length_le (by rw [List.length_drop]; omega)]
theorem all_map {α : Type} {xs : List α} {f : α → Bool} {s : Sto} : gAll [.ls (xs.map fun x => Dv.bl (f x))] s = .ok (.bl (xs.all f)) s := by
  have := all_ls (bs := xs.map f) (s := s)
  rw [List.map_map, List.all_map] at this
  exact this
theorem map_id' {ds : List Dv} : ds.map (fun d => d) = ds := List.map_id ds
end Z

namespace Z
open PySem PySem.Spec L2

/-! ### the least by a key -/
end Z

namespace Z
open PySem PySem.Spec PyProof.Rows L2

/-! ### any data: ints below 10^100, texts of at most 4096 signs -/
mutual
def gb : Nat → Dv → Bool
  | 0, _ => false
  | _ + 1, .non => true
  | _ + 1, .bl _ => true
  | _ + 1, .int i => decide (i.natAbs < 10 ^ 100)
  | _ + 1, .str x => PyData.strOk x && decide (x.cps.size ≤ 4096)
  | n + 1, .tup ds => gbs n ds
  | n + 1, .ls ds => gbs n ds
  | _ + 1, .loc _ => false
  | _ + 1, .xn .. => false
def gbs : Nat → List Dv → Bool
  | _, [] => true
  | n, d :: r => gb n d && gbs n r
end
mutual
def wb : Dv → Nat
  | .int _ => 334
  | .str x => x.cps.size
  | .tup ds => wbs ds
  | .ls ds => wbs ds
  | _ => 0
def wbs : List Dv → Nat
  | [] => 0
  | d :: r => wb d + 1 + wbs r
end
mutual
theorem py_gb {s : Sto} : ∀ {n m : Nat} {d : Dv}, gb n d = true → n ≤ m → py s m d = some (pd d)
  | 0, _, _, h, _ => by simp [gb] at h
  | n + 1, 0, _, _, hm => by omega
  | n + 1, m + 1, .non, _, _ => by simp [py, pd]
  | n + 1, m + 1, .bl _, _, _ => by simp [py, pd]
  | n + 1, m + 1, .int _, _, _ => by simp [py, pd]
  | n + 1, m + 1, .str _, _, _ => by simp [py, pd]
  | n + 1, m + 1, .tup ds, h, hm => by
    have h : gbs n ds = true := by simpa [gb] using h
    show (ds.mapM (py s m)).map PyData.tuple = _
    rw [pys_gb h (by omega)]; simp [pd]
  | n + 1, m + 1, .ls ds, h, hm => by
    have h : gbs n ds = true := by simpa [gb] using h
    show (ds.mapM (py s m)).map PyData.list = _
    rw [pys_gb h (by omega)]; simp [pd]
  | n + 1, m + 1, .loc _, h, _ => by simp [gb] at h
  | n + 1, m + 1, .xn .., h, _ => by simp [gb] at h
theorem pys_gb {s : Sto} : ∀ {n m : Nat} {ds : List Dv}, gbs n ds = true → n ≤ m → ds.mapM (py s m) = some (pds ds)
  | _, _, [], _, _ => by simp [pds]
  | n, m, d :: r, h, hm => by
    have h : gb n d = true ∧ gbs n r = true := by simpa [gbs] using h
    rw [List.mapM_cons, py_gb h.1 hm, pys_gb h.2 hm]; simp [pds]
end
theorem int_shortB {i : Int} (h : i.natAbs < 10 ^ 100) : (PyData.shown (.int i)).length ≤ 101 := by
  have := int_text_length_le10 (a := i) (k := 100) (by decide) h
  show (Str.ofString (toString i)).length ≤ 101
  rw [PySem.ofString_length]; exact this
theorem log2_big {n : Nat} (h : n < 10 ^ 100) : n.log2 < 333 := by
  by_cases h0 : n = 0
  · subst h0; decide
  · refine (Nat.log2_lt h0).mpr (Nat.lt_of_lt_of_le h (by decide +kernel))
theorem gb_str {n : Nat} {x : Str} : gb (n + 1) (.str x) = true ↔ PyData.strOk x = true ∧ x.cps.size ≤ 4096 := by simp [gb]
mutual
theorem gb_ok : ∀ {n : Nat} {d : Dv}, gb n d = true → (pd d).canLay0 = true ∧ (pd d).intsShort 101 = true ∧ (pd d).showable = true ∧ (pd d).weight ≤ wb d ∧ (pd d).depth ≤ n
  | 0, _, h => by simp [gb] at h
  | n + 1, .non, _ => by simp [pd, PyData.canLay0, PyData.intsShort, PyData.showable, PyData.weight, PyData.depth, wb]
  | n + 1, .bl _, _ => by simp [pd, PyData.canLay0, PyData.intsShort, PyData.showable, PyData.weight, PyData.depth, wb]
  | n + 1, .int i, h => by
    have h : i.natAbs < 10 ^ 100 := by simpa [gb] using h
    have hl := log2_big h
    refine ⟨by simp [pd, PyData.canLay0], ?_, ?_, ?_, by simp [pd, PyData.depth]⟩
    · simp only [pd, PyData.intsShort, decide_eq_true_eq]; exact int_shortB h
    · simp only [pd, PyData.showable, decide_eq_true_eq]; omega
    · simp only [pd, PyData.weight, wb]
      split <;> omega
  | n + 1, .str x, h => by
    have h := (gb_str.mp h).1
    simp [pd, PyData.canLay0, PyData.intsShort, PyData.showable, PyData.weight, PyData.depth, wb, h]
  | n + 1, .tup ds, h => by
    have h : gbs n ds = true := by simpa [gb] using h
    obtain ⟨h1, h2, h3, h4, h5⟩ := gbs_ok h
    refine ⟨by simpa [pd, PyData.canLay0] using h1, by simpa [pd, PyData.intsShort] using h2, by simpa [pd, PyData.showable] using h3, by simpa [pd, PyData.weight, wb] using h4, ?_⟩
    simp only [pd, PyData.depth]; omega
  | n + 1, .ls ds, h => by
    have h : gbs n ds = true := by simpa [gb] using h
    obtain ⟨h1, h2, h3, h4, h5⟩ := gbs_ok h
    refine ⟨by simpa [pd, PyData.canLay0] using h1, by simpa [pd, PyData.intsShort] using h2, by simpa [pd, PyData.showable] using h3, by simpa [pd, PyData.weight, wb] using h4, ?_⟩
    simp only [pd, PyData.depth]; omega
  | n + 1, .loc _, h => by simp [gb] at h
  | n + 1, .xn .., h => by simp [gb] at h
theorem gbs_ok : ∀ {n : Nat} {ds : List Dv}, gbs n ds = true → PyData.canLayAll0 (pds ds) = true ∧ PyData.intsShortAll 101 (pds ds) = true ∧ PyData.showableAll (pds ds) = true ∧ PyData.weightAll (pds ds) ≤ wbs ds ∧ PyData.depthAll (pds ds) ≤ n
  | _, [], _ => by simp [pds, PyData.canLayAll0, PyData.intsShortAll, PyData.showableAll, PyData.weightAll, PyData.depthAll, wbs]
  | n, d :: r, h => by
    have h : gb n d = true ∧ gbs n r = true := by simpa [gbs] using h
    obtain ⟨a1, a2, a3, a4, a5⟩ := gb_ok h.1
    obtain ⟨b1, b2, b3, b4, b5⟩ := gbs_ok h.2
    refine ⟨by simp [pds, PyData.canLayAll0, a1, b1], by simp [pds, PyData.intsShortAll, a2, b2], by simp [pds, PyData.showableAll, a3, b3], ?_, ?_⟩
    · simp only [pds, PyData.weightAll, wbs]; omega
    · simp only [pds, PyData.depthAll]; omega
end
theorem gb_tup {n : Nat} {ds : List Dv} : gb (n + 1) (.tup ds) = gbs n ds := by simp [gb]
theorem gb_ls {n : Nat} {ds : List Dv} : gb (n + 1) (.ls ds) = gbs n ds := by simp [gb]
theorem gb_mem : ∀ {n : Nat} {ds : List Dv}, gbs n ds = true → ∀ d ∈ ds, gb n d = true
  | _, [], _, d, hd => absurd hd List.not_mem_nil
  | n, x :: r, h, d, hd => by
    have h : gb n x = true ∧ gbs n r = true := by simpa [gbs] using h
    rcases List.mem_cons.mp hd with e | e
    · rw [e]; exact h.1
    · exact gb_mem h.2 d e
theorem gbs_all {n : Nat} : ∀ {ds : List Dv}, (∀ d ∈ ds, gb n d = true) → gbs n ds = true
  | [], _ => by simp [gbs]
  | d :: r, h => by
    simp only [gbs, Bool.and_eq_true]
    exact ⟨h d List.mem_cons_self, gbs_all fun x hx => h x (List.mem_cons_of_mem _ hx)⟩
theorem wbs_len : ∀ (ds : List Dv), ds.length ≤ wbs ds
  | [] => Nat.le_refl _
  | d :: r => by have := wbs_len r; rw [wbs, List.length_cons]; omega
theorem wb_mem : ∀ {ds : List Dv} {d : Dv}, d ∈ ds → wb d + 1 ≤ wbs ds
  | [], d, hd => absurd hd List.not_mem_nil
  | x :: r, d, hd => by
    rw [wbs]
    rcases List.mem_cons.mp hd with e | e
    · rw [e]; omega
    · have := wb_mem e; omega
theorem wb_tup {ds : List Dv} : wb (.tup ds) = wbs ds := by simp [wb]
theorem gb_okX {n : Nat} {d : Dv} (h : gb n d = true) : okX d = true := by
  cases d with
  | xn => cases n <;> simp [gb] at h
  | _ => rfl
theorem gbs_shape {n : Nat} {ds : List Dv} (h : gbs n ds = true) (hn : n ≤ 39) {s : Sto} : pyOf s (.tup ds) = some (.tuple (pds ds)) ∧ SeqAt.shaped (.tuple (pds ds)) = true ∧ pyOf s (.ls ds) = some (.list (pds ds)) ∧ SeqAt.shaped (.list (pds ds)) = true := by
  obtain ⟨h1, h2, h3, h4, h5⟩ := gbs_ok h
  refine ⟨?_, ?_, ?_, ?_⟩
  · show (ds.mapM (py s 39)).map PyData.tuple = _
    rw [pys_gb h hn]; rfl
  · simp [SeqAt.shaped, PyData.canLay0, PyData.depth, h1]; omega
  · show (ds.mapM (py s 39)).map PyData.list = _
    rw [pys_gb h hn]; rfl
  · simp [SeqAt.shaped, PyData.canLay0, PyData.depth, h1]; omega
theorem pds_nil {ds : List Dv} : PyData.eqvAll (pds ds) [] = ds.isEmpty := by
  cases ds with
  | nil => simp [pds, PyData.eqvAll]
  | cons d r => simp [pds, PyData.eqvAll]
theorem eqT_nil {n : Nat} {ds : List Dv} (h : gbs n ds = true) (hn : n ≤ 39) {s : Sto} : gEq (.tup ds) (.tup []) s = .ok (.bl ds.isEmpty) s := by
  obtain ⟨h1, h2, _, _⟩ := gbs_shape h hn (s := s)
  obtain ⟨g1, g2, _, _⟩ := gbs_shape (ds := []) (n := 0) rfl (by omega) (s := s)
  show (match pyOf s (.tup ds), pyOf s (.tup []) with | some p, some q => Rs.iff (SeqAt.shaped p && SeqAt.shaped q) (Rs.ok (Dv.bl (PyData.eqv p q)) s) | _, _ => .bad) = _
  rw [h1, g1]
  show Rs.iff (SeqAt.shaped (.tuple (pds ds)) && SeqAt.shaped (.tuple (pds []))) (Rs.ok (Dv.bl (PyData.eqv (.tuple (pds ds)) (.tuple (pds [])))) s) = _
  rw [h2, g2, PyData.eqv, show pds [] = [] by simp [pds], pds_nil]; rfl
theorem eqL_nil {n : Nat} {ds : List Dv} (h : gbs n ds = true) (hn : n ≤ 39) {s : Sto} : gEq (.ls ds) (.ls []) s = .ok (.bl ds.isEmpty) s := by
  obtain ⟨_, _, h1, h2⟩ := gbs_shape h hn (s := s)
  obtain ⟨_, _, g1, g2⟩ := gbs_shape (ds := []) (n := 0) rfl (by omega) (s := s)
  show (match pyOf s (.ls ds), pyOf s (.ls []) with | some p, some q => Rs.iff (SeqAt.shaped p && SeqAt.shaped q) (Rs.ok (Dv.bl (PyData.eqv p q)) s) | _, _ => .bad) = _
  rw [h1, g1]
  show Rs.iff (SeqAt.shaped (.list (pds ds)) && SeqAt.shaped (.list (pds []))) (Rs.ok (Dv.bl (PyData.eqv (.list (pds ds)) (.list (pds [])))) s) = _
  rw [h2, g2, PyData.eqv, show pds [] = [] by simp [pds], pds_nil]; rfl
/-! ### kinds -/
def isStrD : Dv → Bool
  | .str _ => true
  | _ => false
def isTupD : Dv → Bool
  | .tup _ => true
  | _ => false
def isIntD : Dv → Bool
  | .int _ => true
  | .bl _ => true
  | _ => false
def isBlD : Dv → Bool
  | .bl _ => true
  | _ => false
end Z

namespace Z
open PySem PySem.Spec L2

/-! ### the least of rows that begin with a number -/
end Z

namespace Z
open PySem PySem.Spec L2

/-! ### draws of the second family -/
def bDrawB3 : Fn Ct :=
  fSeq (fSet 7 (fBin gMod (fBin gPow (fBin gAdd (fBin gAdd (fBin gMod (fVar 6) (fC (.int 2147483629))) (fBin gMul (fC (.int 6151)) (fVar 5))) (fC (.int 389))) (fC (.int 5))) (fC (.int 2147483647))))
  (fSeq (fSet 7 (fBin gMod (fBin gPow (fBin gAdd (fBin gAdd (fVar 7) (fBin gMul (fC (.int 24593)) (fVar 5))) (fC (.int 53))) (fC (.int 5))) (fC (.int 2147483587))))
  (fRet (fBin gMod (fBin gDiv (fVar 7) (fC (.int 64))) (fVar 1))))
def bDrawB2 : Fn Ct :=
  fSeq (fIfS (fAndT (fTest (fBin gGe (fVar 6) (fBin gPow (fC (.int 10)) (fC (.int 18))))) (fTest (fBin gLt (fVar 3) (fCall gLen (fCons (fVar 2) (fNil)))))) (fSeq (fPut (fVar 0) (fC (.int 2)) (fBin gDiv (fVar 6) (fVar 1)))
  (fRet (fBin gMod (fVar 6) (fVar 1)))) (fNop))
  bDrawB3
def bDrawB : Fn Ct :=
  fSeq (fAsg (fVar 0) (gTpL 4 (gsCons (gNm 2) (gsCons (gNm 3) (gsCons (gNm 4) (gsCons (gNm 5) (gsNil)))))))
  (fSeq (fPut (fVar 0) (fC (.int 3)) (fBin gAdd (fVar 5) (fC (.int 1))))
  (fSeq (fIfS (fTest (fBin gGt (fVar 4) (fC (.int 0)))) (fSeq (fPut (fVar 0) (fC (.int 2)) (fBin gDiv (fVar 4) (fVar 1)))
  (fRet (fBin gMod (fVar 4) (fVar 1)))) (fNop))
  (fSeq (fPut (fVar 0) (fC (.int 1)) (fBin gAdd (fVar 3) (fC (.int 1))))
  (fSeq (fSet 6 (fIf (fTest (fBin gGt (fCall gLen (fCons (fVar 2) (fNil))) (fC (.int 0)))) (fBin gIx (fVar 2) (fBin gMod (fVar 3) (fCall gLen (fCons (fVar 2) (fNil))))) (fC (.int 11))))
  bDrawB2))))
theorem drawB_spec : DrawS (fDef 2 8 bDrawB) := by
  intro f r m hw hc hm hm2 hf
  have fin : ∀ {t' : Feed} {x : Int} {T : Dv → Sto → Prop}, T (.int x) (feedOb t' :: r) → OkE nX (gcZ (r.length + 1) (.int x) (feedOb t' :: r)) T := fun h => fin_feed0 hf rfl h
  rw [ok_def]
  refine ⟨rfl, ?_⟩
  have hmp : 0 < m := by omega
  have hm64 : m < 2 ^ 64 := by omega
  have hw1 := hw.c0
  have hs0 := hw.s0
  have mid : ∀ (x : Int), OkE nX (bDrawB2 [some (.loc 0), some (.int m), some (.ls (f.cells.map .int)), some (.int f.spot), some (.int f.rest), some (.int f.calls), some (.int x), none] (feedOb { cells := f.cells, spot := f.spot + 1, rest := f.rest, calls := f.calls + 1 } :: r))
      (finK nX (r.length + 1) fun d s' => ∃ (x : Int) (f' : Feed), d = .int x ∧ 0 ≤ x ∧ x < m ∧ s' = feedOb f' :: r ∧ f'.Wf ∧ f'.calls = f.calls + 1) := by
    intro x
    have tl : OkE nX (bDrawB3 [some (.loc 0), some (.int m), some (.ls (f.cells.map .int)), some (.int f.spot), some (.int f.rest), some (.int f.calls), some (.int x), none] (feedOb { cells := f.cells, spot := f.spot + 1, rest := f.rest, calls := f.calls + 1 } :: r))
        (finK nX (r.length + 1) fun d s' => ∃ (x : Int) (f' : Feed), d = .int x ∧ 0 ≤ x ∧ x < m ∧ s' = feedOb f' :: r ∧ f'.Wf ∧ f'.calls = f.calls + 1) := by
      unfold bDrawB3
      have g1 : 0 ≤ x % 2147483629 ∧ x % 2147483629 < 2147483629 := ⟨Int.emod_nonneg _ (by decide), Int.emod_lt_of_pos _ (by decide)⟩
      simp only [Y1, Qf, Qt, Qu, Qa, Qg, Qv, Qw, Qx, Qy, Qh, Qz, Jy, Qi, Qb, Qj, Qk, Q0, Jz, Q1, Q2, J0, Q3, Q4, J1, Ql, Qm, Qn, Q5, Qo, Q6, Qp, Q7, Q8, J2, Q9, Ja, J3, J4, J5, Jb, J6, J7, Jc, J8, J9, Jd, Je, Ya, Jf, Yb, Jg, Jh, Y8, Yc, Ji, Yd, Ye, Yf, Yg, Yh, Y2, Jj, Qq, Jk, Yi, Jl, Jm, Yj, Y3, Yk, Yl, Y4, Ym, Y5, Yn, Qc, Yo, Jn, Yp, Yq, Y6, Yr, Qd, Jo, Jp, Y7, Ys, Yt, Yu, Yv, Yw, Yx, Jq, Jr, Qr, Js, Yy, Qe, Qs, List.set_cons_zero, List.set_cons_succ, List.map_cons, List.map_nil, List.replicate, List.cons_append, List.nil_append, List.length_cons, List.length_nil, Bool.false_eq_true, eq_self, if_true, if_false, Nat.zero_add, Jt, Yz, Ju, Jv, Jw, Y0, Jx, true_and, mod_ok (show (0 : Int) < 2147483629 by decide), mul_ok (show -(2 ^ 64) < (6151 : Int) ∧ (6151 : Int) < 2 ^ 64 by decide), add_int]
      rw [pow_ok (by decide) (by constructor <;> omega)]
      simp only [Y1, Qf, Qt, Qu, Qa, Qg, Qv, Qw, Qx, Qy, Qh, Qz, Jy, Qi, Qb, Qj, Qk, Q0, Jz, Q1, Q2, J0, Q3, Q4, J1, Ql, Qm, Qn, Q5, Qo, Q6, Qp, Q7, Q8, J2, Q9, Ja, J3, J4, J5, Jb, J6, J7, Jc, J8, J9, Jd, Je, Ya, Jf, Yb, Jg, Jh, Y8, Yc, Ji, Yd, Ye, Yf, Yg, Yh, Y2, Jj, Qq, Jk, Yi, Jl, Jm, Yj, Y3, Yk, Yl, Y4, Ym, Y5, Yn, Qc, Yo, Jn, Yp, Yq, Y6, Yr, Qd, Jo, Jp, Y7, Ys, Yt, Yu, Yv, Yw, Yx, Jq, Jr, Qr, Js, Yy, Qe, Qs, List.set_cons_zero, List.set_cons_succ, List.map_cons, List.map_nil, List.replicate, List.cons_append, List.nil_append, List.length_cons, List.length_nil, Bool.false_eq_true, eq_self, if_true, if_false, Nat.zero_add, Jt, Yz, Ju, Jv, Jw, Y0, Jx, true_and, mod_ok (show (0 : Int) < 2147483647 by decide), mul_ok (show -(2 ^ 64) < (24593 : Int) ∧ (24593 : Int) < 2 ^ 64 by decide), add_int]
      have g2 : 0 ≤ (x % 2147483629 + 6151 * f.calls + 389) ^ (Int.toNat 5) % 2147483647 ∧ (x % 2147483629 + 6151 * f.calls + 389) ^ (Int.toNat 5) % 2147483647 < 2147483647 := ⟨Int.emod_nonneg _ (by decide), Int.emod_lt_of_pos _ (by decide)⟩
      generalize (x % 2147483629 + 6151 * f.calls + 389) ^ (Int.toNat 5) % 2147483647 = y at g2 ⊢
      rw [pow_ok (by decide) (by constructor <;> omega)]
      simp only [Y1, Qf, Qt, Qu, Qa, Qg, Qv, Qw, Qx, Qy, Qh, Qz, Jy, Qi, Qb, Qj, Qk, Q0, Jz, Q1, Q2, J0, Q3, Q4, J1, Ql, Qm, Qn, Q5, Qo, Q6, Qp, Q7, Q8, J2, Q9, Ja, J3, J4, J5, Jb, J6, J7, Jc, J8, J9, Jd, Je, Ya, Jf, Yb, Jg, Jh, Y8, Yc, Ji, Yd, Ye, Yf, Yg, Yh, Y2, Jj, Qq, Jk, Yi, Jl, Jm, Yj, Y3, Yk, Yl, Y4, Ym, Y5, Yn, Qc, Yo, Jn, Yp, Yq, Y6, Yr, Qd, Jo, Jp, Y7, Ys, Yt, Yu, Yv, Yw, Yx, Jq, Jr, Qr, Js, Yy, Qe, Qs, List.set_cons_zero, List.set_cons_succ, List.map_cons, List.map_nil, List.replicate, List.cons_append, List.nil_append, List.length_cons, List.length_nil, Bool.false_eq_true, eq_self, if_true, if_false, Nat.zero_add, Jt, Yz, Ju, Jv, Jw, Y0, Jx, true_and, mod_ok (show (0 : Int) < 2147483587 by decide), div_ok (show (0 : Int) < 64 by decide) (by decide), mod_ok hmp]
      exact fin ⟨_, _, rfl, Int.emod_nonneg _ (by omega), Int.emod_lt_of_pos _ hmp, rfl, ⟨by show 0 ≤ f.calls + 1; omega, hw.r0, by show 0 ≤ f.spot + 1; omega⟩, rfl⟩
    unfold bDrawB2
    simp only [Y1, Qf, Qt, Qu, Qa, Qg, Qv, Qw, Qx, Qy, Qh, Qz, Jy, Qi, Qb, Qj, Qk, Q0, Jz, Q1, Q2, J0, Q3, Q4, J1, Ql, Qm, Qn, Q5, Qo, Q6, Qp, Q7, Q8, J2, Q9, Ja, J3, J4, J5, Jb, J6, J7, Jc, J8, J9, Jd, Je, Ya, Jf, Yb, Jg, Jh, Y8, Yc, Ji, Yd, Ye, Yf, Yg, Yh, Y2, Jj, Qq, Jk, Yi, Jl, Jm, Yj, Y3, Yk, Yl, Y4, Ym, Y5, Yn, Qc, Yo, Jn, Yp, Yq, Y6, Yr, Qd, Jo, Jp, Y7, Ys, Yt, Yu, Yv, Yw, Yx, Jq, Jr, Qr, Js, Yy, Qe, Qs, List.set_cons_zero, List.set_cons_succ, List.map_cons, List.map_nil, List.replicate, List.cons_append, List.nil_append, List.length_cons, List.length_nil, Bool.false_eq_true, eq_self, if_true, if_false, Nat.zero_add, Jt, Yz, Ju, Jv, Jw, Y0, Jx, true_and, pow_ok (show (0 : Int) ≤ 18 ∧ (18 : Int) ≤ 1000000 by decide) (show -(2 ^ 64) < (10 : Int) ∧ (10 : Int) < 2 ^ 64 by decide), ge_int, decide_eq_true_eq]
    split
    · rename_i h2
      simp only [Y1, Qf, Qt, Qu, Qa, Qg, Qv, Qw, Qx, Qy, Qh, Qz, Jy, Qi, Qb, Qj, Qk, Q0, Jz, Q1, Q2, J0, Q3, Q4, J1, Ql, Qm, Qn, Q5, Qo, Q6, Qp, Q7, Q8, J2, Q9, Ja, J3, J4, J5, Jb, J6, J7, Jc, J8, J9, Jd, Je, Ya, Jf, Yb, Jg, Jh, Y8, Yc, Ji, Yd, Ye, Yf, Yg, Yh, Y2, Jj, Qq, Jk, Yi, Jl, Jm, Yj, Y3, Yk, Yl, Y4, Ym, Y5, Yn, Qc, Yo, Jn, Yp, Yq, Y6, Yr, Qd, Jo, Jp, Y7, Ys, Yt, Yu, Yv, Yw, Yx, Jq, Jr, Qr, Js, Yy, Qe, Qs, List.set_cons_zero, List.set_cons_succ, List.map_cons, List.map_nil, List.replicate, List.cons_append, List.nil_append, List.length_cons, List.length_nil, Bool.false_eq_true, eq_self, if_true, if_false, Nat.zero_add, Jt, Yz, Ju, Jv, Jw, Y0, Jx, true_and, len_ls, lt_int, decide_eq_true_eq]
      split
      · simp only [Y1, Qf, Qt, Qu, Qa, Qg, Qv, Qw, Qx, Qy, Qh, Qz, Jy, Qi, Qb, Qj, Qk, Q0, Jz, Q1, Q2, J0, Q3, Q4, J1, Ql, Qm, Qn, Q5, Qo, Q6, Qp, Q7, Q8, J2, Q9, Ja, J3, J4, J5, Jb, J6, J7, Jc, J8, J9, Jd, Je, Ya, Jf, Yb, Jg, Jh, Y8, Yc, Ji, Yd, Ye, Yf, Yg, Yh, Y2, Jj, Qq, Jk, Yi, Jl, Jm, Yj, Y3, Yk, Yl, Y4, Ym, Y5, Yn, Qc, Yo, Jn, Yp, Yq, Y6, Yr, Qd, Jo, Jp, Y7, Ys, Yt, Yu, Yv, Yw, Yx, Jq, Jr, Qr, Js, Yy, Qe, Qs, List.set_cons_zero, List.set_cons_succ, List.map_cons, List.map_nil, List.replicate, List.cons_append, List.nil_append, List.length_cons, List.length_nil, Bool.false_eq_true, eq_self, if_true, if_false, Nat.zero_add, Jt, Yz, Ju, Jv, Jw, Y0, Jx, true_and, div_ok hmp hm64, fp_2, mod_ok hmp]
        refine fin ⟨_, _, rfl, Int.emod_nonneg _ (by omega), Int.emod_lt_of_pos _ hmp, rfl, ⟨by show 0 ≤ f.calls + 1; omega, Int.ediv_nonneg ?_ (by omega), by show 0 ≤ f.spot + 1; omega⟩, rfl⟩
        have : (10 : Int) ^ (Int.toNat 18) = 1000000000000000000 := by decide
        omega
      · exact tl
    · exact tl
  unfold bDrawB
  simp only [Y1, Qf, Qt, Qu, Qa, Qg, Qv, Qw, Qx, Qy, Qh, Qz, Jy, Qi, Qb, Qj, Qk, Q0, Jz, Q1, Q2, J0, Q3, Q4, J1, Ql, Qm, Qn, Q5, Qo, Q6, Qp, Q7, Q8, J2, Q9, Ja, J3, J4, J5, Jb, J6, J7, Jc, J8, J9, Jd, Je, Ya, Jf, Yb, Jg, Jh, Y8, Yc, Ji, Yd, Ye, Yf, Yg, Yh, Y2, Jj, Qq, Jk, Yi, Jl, Jm, Yj, Y3, Yk, Yl, Y4, Ym, Y5, Yn, Qc, Yo, Jn, Yp, Yq, Y6, Yr, Qd, Jo, Jp, Y7, Ys, Yt, Yu, Yv, Yw, Yx, Jq, Jr, Qr, Js, Yy, Qe, Qs, List.set_cons_zero, List.set_cons_succ, List.map_cons, List.map_nil, List.replicate, List.cons_append, List.nil_append, List.length_cons, List.length_nil, Bool.false_eq_true, eq_self, if_true, if_false, Nat.zero_add, Jt, Yz, Ju, Jv, Jw, Y0, Jx, true_and]
  rw [ok_gTpL (ds := [.ls (f.cells.map .int), .int f.spot, .int f.rest, .int f.calls]) rfl]
  refine ⟨rfl, ?_⟩
  simp only [Y1, Qf, Qt, Qu, Qa, Qg, Qv, Qw, Qx, Qy, Qh, Qz, Jy, Qi, Qb, Qj, Qk, Q0, Jz, Q1, Q2, J0, Q3, Q4, J1, Ql, Qm, Qn, Q5, Qo, Q6, Qp, Q7, Q8, J2, Q9, Ja, J3, J4, J5, Jb, J6, J7, Jc, J8, J9, Jd, Je, Ya, Jf, Yb, Jg, Jh, Y8, Yc, Ji, Yd, Ye, Yf, Yg, Yh, Y2, Jj, Qq, Jk, Yi, Jl, Jm, Yj, Y3, Yk, Yl, Y4, Ym, Y5, Yn, Qc, Yo, Jn, Yp, Yq, Y6, Yr, Qd, Jo, Jp, Y7, Ys, Yt, Yu, Yv, Yw, Yx, Jq, Jr, Qr, Js, Yy, Qe, Qs, List.set_cons_zero, List.set_cons_succ, List.map_cons, List.map_nil, List.replicate, List.cons_append, List.nil_append, List.length_cons, List.length_nil, Bool.false_eq_true, eq_self, if_true, if_false, Nat.zero_add, Jt, Yz, Ju, Jv, Jw, Y0, Jx, true_and, Qp, add_int, fp_3, gt_int, decide_eq_true_eq]
  split
  · rename_i h1
    simp only [Y1, Qf, Qt, Qu, Qa, Qg, Qv, Qw, Qx, Qy, Qh, Qz, Jy, Qi, Qb, Qj, Qk, Q0, Jz, Q1, Q2, J0, Q3, Q4, J1, Ql, Qm, Qn, Q5, Qo, Q6, Qp, Q7, Q8, J2, Q9, Ja, J3, J4, J5, Jb, J6, J7, Jc, J8, J9, Jd, Je, Ya, Jf, Yb, Jg, Jh, Y8, Yc, Ji, Yd, Ye, Yf, Yg, Yh, Y2, Jj, Qq, Jk, Yi, Jl, Jm, Yj, Y3, Yk, Yl, Y4, Ym, Y5, Yn, Qc, Yo, Jn, Yp, Yq, Y6, Yr, Qd, Jo, Jp, Y7, Ys, Yt, Yu, Yv, Yw, Yx, Jq, Jr, Qr, Js, Yy, Qe, Qs, List.set_cons_zero, List.set_cons_succ, List.map_cons, List.map_nil, List.replicate, List.cons_append, List.nil_append, List.length_cons, List.length_nil, Bool.false_eq_true, eq_self, if_true, if_false, Nat.zero_add, Jt, Yz, Ju, Jv, Jw, Y0, Jx, true_and, mod_ok hmp, div_ok hmp hm64, fp_2]
    exact fin ⟨_, _, rfl, Int.emod_nonneg _ (by omega), Int.emod_lt_of_pos _ hmp, rfl, ⟨by show 0 ≤ f.calls + 1; omega, Int.ediv_nonneg hw.r0 (by omega), hs0⟩, rfl⟩
  · simp only [Y1, Qf, Qt, Qu, Qa, Qg, Qv, Qw, Qx, Qy, Qh, Qz, Jy, Qi, Qb, Qj, Qk, Q0, Jz, Q1, Q2, J0, Q3, Q4, J1, Ql, Qm, Qn, Q5, Qo, Q6, Qp, Q7, Q8, J2, Q9, Ja, J3, J4, J5, Jb, J6, J7, Jc, J8, J9, Jd, Je, Ya, Jf, Yb, Jg, Jh, Y8, Yc, Ji, Yd, Ye, Yf, Yg, Yh, Y2, Jj, Qq, Jk, Yi, Jl, Jm, Yj, Y3, Yk, Yl, Y4, Ym, Y5, Yn, Qc, Yo, Jn, Yp, Yq, Y6, Yr, Qd, Jo, Jp, Y7, Ys, Yt, Yu, Yv, Yw, Yx, Jq, Jr, Qr, Js, Yy, Qe, Qs, List.set_cons_zero, List.set_cons_succ, List.map_cons, List.map_nil, List.replicate, List.cons_append, List.nil_append, List.length_cons, List.length_nil, Bool.false_eq_true, eq_self, if_true, if_false, Nat.zero_add, Jt, Yz, Ju, Jv, Jw, Y0, Jx, true_and, add_int, fp_1, len_ls, gt_int, decide_eq_true_eq]
    split
    · rename_i h1 h2
      have hl2 : (0 : Int) < ((f.cells.map Dv.int).length : Nat) := h2
      simp only [Y1, Qf, Qt, Qu, Qa, Qg, Qv, Qw, Qx, Qy, Qh, Qz, Jy, Qi, Qb, Qj, Qk, Q0, Jz, Q1, Q2, J0, Q3, Q4, J1, Ql, Qm, Qn, Q5, Qo, Q6, Qp, Q7, Q8, J2, Q9, Ja, J3, J4, J5, Jb, J6, J7, Jc, J8, J9, Jd, Je, Ya, Jf, Yb, Jg, Jh, Y8, Yc, Ji, Yd, Ye, Yf, Yg, Yh, Y2, Jj, Qq, Jk, Yi, Jl, Jm, Yj, Y3, Yk, Yl, Y4, Ym, Y5, Yn, Qc, Yo, Jn, Yp, Yq, Y6, Yr, Qd, Jo, Jp, Y7, Ys, Yt, Yu, Yv, Yw, Yx, Jq, Jr, Qr, Js, Yy, Qe, Qs, List.set_cons_zero, List.set_cons_succ, List.map_cons, List.map_nil, List.replicate, List.cons_append, List.nil_append, List.length_cons, List.length_nil, Bool.false_eq_true, eq_self, if_true, if_false, Nat.zero_add, Jt, Yz, Ju, Jv, Jw, Y0, Jx, true_and, len_ls, mod_ok hl2]
      have e1 : 0 ≤ f.spot % ((f.cells.map Dv.int).length : Int) := Int.emod_nonneg _ (by omega)
      have e2 : f.spot % ((f.cells.map Dv.int).length : Int) < (f.cells.map Dv.int).length := Int.emod_lt_of_pos _ (by omega)
      have e3 : (f.spot % ((f.cells.map Dv.int).length : Int)).toNat < f.cells.length := by rw [List.length_map] at *; omega
      rw [ix_ls (d := .int f.cells[(f.spot % ((f.cells.map Dv.int).length : Int)).toNat]) e1 (by rw [List.getElem?_map, List.getElem?_eq_getElem e3]; rfl)]
      exact mid _
    · exact mid 11

/-! ### lots, some names -/
def pool6 : List Str := [Str.ofString "a", Str.ofString "ab", Str.ofString "b", Str.ofString "bob", Str.ofString "cy", Str.ofString "zzzzzzzz"]
theorem pool6_nd : pool6.Nodup := by decide +kernel
theorem pool6_word : ∀ x ∈ pool6, isWordS x = true := by decide +kernel
def bLotsB (φd : Phi) : Fn Ct :=
  fSeq (fSet 1 (fNew (fLst (fCons (fC (.str (Str.ofString "a"))) (fCons (fC (.str (Str.ofString "ab"))) (fCons (fC (.str (Str.ofString "b"))) (fCons (fC (.str (Str.ofString "bob"))) (fCons (fC (.str (Str.ofString "cy"))) (fCons (fC (.str (Str.ofString "zzzzzzzz"))) (fNil))))))))))
  (fRet (fCall gTuple (fCons (fVal (fLc (fRng1 (fCons (fBin gAdd (fC (.int 2)) (fCall φd (fCons (fVar 0) (fCons (fC (.int 5)) (fNil))))) (fNil))) [2] (gNm 2) (fYes) (fMt isL gPopAt (fVar 1) (fCons (fCall φd (fCons (fVar 0) (fCons (fCall gLen (fCons (fVar 1) (fNil))) (fNil)))) (fNil))))) (fNil))))
def LotsB (φ : Phi) : Prop := ∀ (f : Feed) (r : Sto), f.Wf → f.calls + 20 ≤ 1000000 → Fl r → OkE nX (φ [.loc 0] (feedOb f :: r)) fun d s' => ∃ (xs : List Str) (f' : Feed), d = encS xs ∧ 2 ≤ xs.length ∧ xs.length ≤ 6 ∧ xs.Nodup ∧ (∀ x ∈ xs, x ∈ pool6) ∧
  s' = feedOb f' :: r ∧ f'.Wf ∧ f.calls ≤ f'.calls ∧ f'.calls ≤ f.calls + 10
theorem lotsB_spec {φd : Phi} (ht : DrawS φd) : LotsB (fDef 1 3 (bLotsB φd)) := by
  intro f r hw hc hf
  rw [ok_def]
  refine ⟨rfl, ?_⟩
  unfold bLotsB
  simp only [Y1, Qf, Qt, Qu, Qa, Qg, Qv, Qw, Qx, Qy, Qh, Qz, Jy, Qi, Qb, Qj, Qk, Q0, Jz, Q1, Q2, J0, Q3, Q4, J1, Ql, Qm, Qn, Q5, Qo, Q6, Qp, Q7, Q8, J2, Q9, Ja, J3, J4, J5, Jb, J6, J7, Jc, J8, J9, Jd, Je, Ya, Jf, Yb, Jg, Jh, Y8, Yc, Ji, Yd, Ye, Yf, Yg, Yh, Y2, Jj, Qq, Jk, Yi, Jl, Jm, Yj, Y3, Yk, Yl, Y4, Ym, Y5, Yn, Qc, Yo, Jn, Yp, Yq, Y6, Yr, Qd, Jo, Jp, Y7, Ys, Yt, Yu, Yv, Yw, Yx, Jq, Jr, Qr, Js, Yy, Qe, Qs, List.set_cons_zero, List.set_cons_succ, List.map_cons, List.map_nil, List.replicate, List.cons_append, List.nil_append, List.length_cons, List.length_nil, Bool.false_eq_true, eq_self, if_true, if_false, Nat.zero_add, Jt, Yz, Ju, Jv, Jw, Y0, Jx, true_and]
  refine ⟨by decide, ?_⟩
  refine (ht f (r ++ [.lst (pool6.map .str)]) 5 hw (by omega) (by omega) (by omega) (hf.app (.one (belows_strs _ _)))).mono ?_
  rintro d s ⟨m, f0, rfl, hm0, hm1, rfl, hw0, hc0⟩
  simp only [Y1, Qf, Qt, Qu, Qa, Qg, Qv, Qw, Qx, Qy, Qh, Qz, Jy, Qi, Qb, Qj, Qk, Q0, Jz, Q1, Q2, J0, Q3, Q4, J1, Ql, Qm, Qn, Q5, Qo, Q6, Qp, Q7, Q8, J2, Q9, Ja, J3, J4, J5, Jb, J6, J7, Jc, J8, J9, Jd, Je, Ya, Jf, Yb, Jg, Jh, Y8, Yc, Ji, Yd, Ye, Yf, Yg, Yh, Y2, Jj, Qq, Jk, Yi, Jl, Jm, Yj, Y3, Yk, Yl, Y4, Ym, Y5, Yn, Qc, Yo, Jn, Yp, Yq, Y6, Yr, Qd, Jo, Jp, Y7, Ys, Yt, Yu, Yv, Yw, Yx, Jq, Jr, Qr, Js, Yy, Qe, Qs, List.set_cons_zero, List.set_cons_succ, List.map_cons, List.map_nil, List.replicate, List.cons_append, List.nil_append, List.length_cons, List.length_nil, Bool.false_eq_true, eq_self, if_true, if_false, Nat.zero_add, Jt, Yz, Ju, Jv, Jw, Y0, Jx, true_and, add_int]
  refine ⟨inRng_small (by omega) (by omega), ?_⟩
  simp only [Y1, Qf, Qt, Qu, Qa, Qg, Qv, Qw, Qx, Qy, Qh, Qz, Jy, Qi, Qb, Qj, Qk, Q0, Jz, Q1, Q2, J0, Q3, Q4, J1, Ql, Qm, Qn, Q5, Qo, Q6, Qp, Q7, Q8, J2, Q9, Ja, J3, J4, J5, Jb, J6, J7, Jc, J8, J9, Jd, Je, Ya, Jf, Yb, Jg, Jh, Y8, Yc, Ji, Yd, Ye, Yf, Yg, Yh, Y2, Jj, Qq, Jk, Yi, Jl, Jm, Yj, Y3, Yk, Yl, Y4, Ym, Y5, Yn, Qc, Yo, Jn, Yp, Yq, Y6, Yr, Qd, Jo, Jp, Y7, Ys, Yt, Yu, Yv, Yw, Yx, Jq, Jr, Qr, Js, Yy, Qe, Qs, List.set_cons_zero, List.set_cons_succ, List.map_cons, List.map_nil, List.replicate, List.cons_append, List.nil_append, List.length_cons, List.length_nil, Bool.false_eq_true, eq_self, if_true, if_false, Nat.zero_add, Jt, Yz, Ju, Jv, Jw, Y0, Jx, true_and, rngD_len]
  refine ⟨decide_eq_true (by omega), ?_⟩
  refine ok_lcI (fun i acc s => ∃ (t' : Feed) (xs pool : List Str), acc = xs.map .str ∧ s = feedOb t' :: (r ++ [.lst (pool.map .str)]) ∧ xs.length = i ∧ (xs ++ pool).Perm pool6 ∧ t'.Wf ∧ t'.calls = f.calls + 1 + i)
    (fun _ _ _ _ => rfl) (fun i d acc s hd h => ?_) (fun acc s h => ?_) ⟨f0, [], pool6, rfl, rfl, rfl, List.Perm.refl _, hw0, by simp [hc0]⟩
  · obtain ⟨t', xs, pool, rfl, rfl, rfl, hp, hw', hc'⟩ := h
    obtain ⟨hi, rfl⟩ := rngD_get hd
    have hpl : xs.length + pool.length = 6 := by rw [← List.length_append, hp.length_eq]; rfl
    have hl : (feedOb t' :: (r ++ [Ob.lst (pool.map .str)]))[r.length + 1]? = some (.lst (pool.map .str)) := st_get1
    simp only [Y1, Qf, Qt, Qu, Qa, Qg, Qv, Qw, Qx, Qy, Qh, Qz, Jy, Qi, Qb, Qj, Qk, Q0, Jz, Q1, Q2, J0, Q3, Q4, J1, Ql, Qm, Qn, Q5, Qo, Q6, Qp, Q7, Q8, J2, Q9, Ja, J3, J4, J5, Jb, J6, J7, Jc, J8, J9, Jd, Je, Ya, Jf, Yb, Jg, Jh, Y8, Yc, Ji, Yd, Ye, Yf, Yg, Yh, Y2, Jj, Qq, Jk, Yi, Jl, Jm, Yj, Y3, Yk, Yl, Y4, Ym, Y5, Yn, Qc, Yo, Jn, Yp, Yq, Y6, Yr, Qd, Jo, Jp, Y7, Ys, Yt, Yu, Yv, Yw, Yx, Jq, Jr, Qr, Js, Yy, Qe, Qs, List.set_cons_zero, List.set_cons_succ, List.map_cons, List.map_nil, List.replicate, List.cons_append, List.nil_append, List.length_cons, List.length_nil, Bool.false_eq_true, eq_self, if_true, if_false, Nat.zero_add, Jt, Yz, Ju, Jv, Jw, Y0, Jx, true_and, wipeZ]
    refine ⟨isL_loc hl, ?_⟩
    simp only [Y1, Qf, Qt, Qu, Qa, Qg, Qv, Qw, Qx, Qy, Qh, Qz, Jy, Qi, Qb, Qj, Qk, Q0, Jz, Q1, Q2, J0, Q3, Q4, J1, Ql, Qm, Qn, Q5, Qo, Q6, Qp, Q7, Q8, J2, Q9, Ja, J3, J4, J5, Jb, J6, J7, Jc, J8, J9, Jd, Je, Ya, Jf, Yb, Jg, Jh, Y8, Yc, Ji, Yd, Ye, Yf, Yg, Yh, Y2, Jj, Qq, Jk, Yi, Jl, Jm, Yj, Y3, Yk, Yl, Y4, Ym, Y5, Yn, Qc, Yo, Jn, Yp, Yq, Y6, Yr, Qd, Jo, Jp, Y7, Ys, Yt, Yu, Yv, Yw, Yx, Jq, Jr, Qr, Js, Yy, Qe, Qs, List.set_cons_zero, List.set_cons_succ, List.map_cons, List.map_nil, List.replicate, List.cons_append, List.nil_append, List.length_cons, List.length_nil, Bool.false_eq_true, eq_self, if_true, if_false, Nat.zero_add, Jt, Yz, Ju, Jv, Jw, Y0, Jx, true_and, len_loc hl]
    refine (ht t' (r ++ [.lst (pool.map .str)]) ((pool.map Dv.str).length : Int) hw' (by omega) (by rw [List.length_map]; omega) (by rw [List.length_map]; omega) (hf.app (.one (belows_strs _ _)))).mono ?_
    rintro d s ⟨x, t2, rfl, hx0, hx1, rfl, hw2, hc2⟩
    rw [List.length_map] at hx1
    have hxn : x.toNat < pool.length := by omega
    simp only [Y1, Qf, Qt, Qu, Qa, Qg, Qv, Qw, Qx, Qy, Qh, Qz, Jy, Qi, Qb, Qj, Qk, Q0, Jz, Q1, Q2, J0, Q3, Q4, J1, Ql, Qm, Qn, Q5, Qo, Q6, Qp, Q7, Q8, J2, Q9, Ja, J3, J4, J5, Jb, J6, J7, Jc, J8, J9, Jd, Je, Ya, Jf, Yb, Jg, Jh, Y8, Yc, Ji, Yd, Ye, Yf, Yg, Yh, Y2, Jj, Qq, Jk, Yi, Jl, Jm, Yj, Y3, Yk, Yl, Y4, Ym, Y5, Yn, Qc, Yo, Jn, Yp, Yq, Y6, Yr, Qd, Jo, Jp, Y7, Ys, Yt, Yu, Yv, Yw, Yx, Jq, Jr, Qr, Js, Yy, Qe, Qs, List.set_cons_zero, List.set_cons_succ, List.map_cons, List.map_nil, List.replicate, List.cons_append, List.nil_append, List.length_cons, List.length_nil, Bool.false_eq_true, eq_self, if_true, if_false, Nat.zero_add, Jt, Yz, Ju, Jv, Jw, Y0, Jx, true_and]
    rw [popAt_loc (d := .str pool[x.toNat]) (ds := pool.map .str) st_get1 hx0 (by omega) (str_get hxn), Y1, st_set1]
    refine ⟨t2, xs ++ [pool[x.toNat]], pool.eraseIdx x.toNat, by simp, by rw [map_erase], by simp, ?_, hw2, by rw [hc2, hc']; push_cast; omega⟩
    rw [List.append_assoc]
    refine List.Perm.trans (List.Perm.append_left _ ?_) hp
    show (pool[x.toNat] :: pool.eraseIdx x.toNat).Perm pool
    exact erase_perm pool x.toNat hxn
  · obtain ⟨t', xs, pool, rfl, rfl, hxl, hp, hw', hc'⟩ := h
    rw [rngD_len] at hxl hc'
    have hnd : (xs ++ pool).Nodup := hp.nodup_iff.mpr pool6_nd
    simp only [Y1, Qf, Qt, Qu, Qa, Qg, Qv, Qw, Qx, Qy, Qh, Qz, Jy, Qi, Qb, Qj, Qk, Q0, Jz, Q1, Q2, J0, Q3, Q4, J1, Ql, Qm, Qn, Q5, Qo, Q6, Qp, Q7, Q8, J2, Q9, Ja, J3, J4, J5, Jb, J6, J7, Jc, J8, J9, Jd, Je, Ya, Jf, Yb, Jg, Jh, Y8, Yc, Ji, Yd, Ye, Yf, Yg, Yh, Y2, Jj, Qq, Jk, Yi, Jl, Jm, Yj, Y3, Yk, Yl, Y4, Ym, Y5, Yn, Qc, Yo, Jn, Yp, Yq, Y6, Yr, Qd, Jo, Jp, Y7, Ys, Yt, Yu, Yv, Yw, Yx, Jq, Jr, Qr, Js, Yy, Qe, Qs, List.set_cons_zero, List.set_cons_succ, List.map_cons, List.map_nil, List.replicate, List.cons_append, List.nil_append, List.length_cons, List.length_nil, Bool.false_eq_true, eq_self, if_true, if_false, Nat.zero_add, Jt, Yz, Ju, Jv, Jw, Y0, Jx, true_and, tuple_ls]
    refine fin_feed hf (below_encS 0 xs) ⟨xs, t', rfl, by omega, by omega, (List.nodup_append.mp hnd).1, fun x hx => hp.mem_iff.mp (List.mem_append.mpr (.inl hx)), rfl, hw', by omega, by omega⟩
def bSomeB (φd : Phi) : Fn Ct :=
  fSeq (fSet 3 (fNew (fCallL gList (fCons (fVar 1) (fNil)))))
  (fRet (fCall gTuple (fCons (fVal (fCallL gSorted (fCons (fVal (fLc (fRng1 (fCons (fCall (gTwo fun i j => if j < i then j else i) (fCons (fVar 2) (fCons (fCall gLen (fCons (fVar 3) (fNil))) (fNil)))) (fNil))) [4] (gNm 4) (fYes) (fMt isL gPopAt (fVar 3) (fCons (fCall φd (fCons (fVar 0) (fCons (fCall gLen (fCons (fVar 3) (fNil))) (fNil)))) (fNil))))) (fNil)))) (fNil))))
def SomeB (φ : Phi) : Prop := ∀ (f : Feed) (r : Sto) (d : Dv) (xs : List Str) (m : Int), f.Wf → f.calls + 20 ≤ 1000000 → (∀ s : Sto, gList [d] s = .ok (xs.map .str) s) → xs.length ≤ 6 → 0 ≤ m → m ≤ 100 → Fl r → OkE nX (φ [.loc 0, d, .int m] (feedOb f :: r)) fun d s' => ∃ (ws : List Str) (f' : Feed), d = encS ws ∧ (∀ x ∈ ws, x ∈ xs) ∧ (xs.Nodup → ws.Nodup) ∧ (ws.length : Int) = (if (xs.length : Int) < m then (xs.length : Int) else m) ∧
  s' = feedOb f' :: r ∧ f'.Wf ∧ f.calls ≤ f'.calls ∧ f'.calls ≤ f.calls + 6
theorem someB_spec {φd : Phi} (ht : DrawS φd) : SomeB (fDef 3 5 (bSomeB φd)) := by
  intro f r d0 ns m hw hc hgl hl6 hm0 hm1 hf
  rw [ok_def]
  refine ⟨rfl, ?_⟩
  unfold bSomeB
  have e0 : ((ns.map Dv.str).length : Int) = ns.length := by rw [List.length_map]
  have hl0 : (feedOb f :: (r ++ [Ob.lst (ns.map .str)]))[r.length + 1]? = some (.lst (ns.map .str)) := st_get1
  simp only [Y1, Qf, Qt, Qu, Qa, Qg, Qv, Qw, Qx, Qy, Qh, Qz, Jy, Qi, Qb, Qj, Qk, Q0, Jz, Q1, Q2, J0, Q3, Q4, J1, Ql, Qm, Qn, Q5, Qo, Q6, Qp, Q7, Q8, J2, Q9, Ja, J3, J4, J5, Jb, J6, J7, Jc, J8, J9, Jd, Je, Ya, Jf, Yb, Jg, Jh, Y8, Yc, Ji, Yd, Ye, Yf, Yg, Yh, Y2, Jj, Qq, Jk, Yi, Jl, Jm, Yj, Y3, Yk, Yl, Y4, Ym, Y5, Yn, Qc, Yo, Jn, Yp, Yq, Y6, Yr, Qd, Jo, Jp, Y7, Ys, Yt, Yu, Yv, Yw, Yx, Jq, Jr, Qr, Js, Yy, Qe, Qs, List.set_cons_zero, List.set_cons_succ, List.map_cons, List.map_nil, List.replicate, List.cons_append, List.nil_append, List.length_cons, List.length_nil, Bool.false_eq_true, eq_self, if_true, if_false, Nat.zero_add, Jt, Yz, Ju, Jv, Jw, Y0, Jx, true_and, hgl, len_loc hl0, two_ok, e0]
  have hk : 0 ≤ (if (ns.length : Int) < m then (ns.length : Int) else m) ∧ (if (ns.length : Int) < m then (ns.length : Int) else m) ≤ ns.length := by split <;> omega
  generalize (if (ns.length : Int) < m then (ns.length : Int) else m) = k at hk ⊢
  refine ⟨inRng_small (by omega) (by omega), ?_⟩
  simp only [Y1, Qf, Qt, Qu, Qa, Qg, Qv, Qw, Qx, Qy, Qh, Qz, Jy, Qi, Qb, Qj, Qk, Q0, Jz, Q1, Q2, J0, Q3, Q4, J1, Ql, Qm, Qn, Q5, Qo, Q6, Qp, Q7, Q8, J2, Q9, Ja, J3, J4, J5, Jb, J6, J7, Jc, J8, J9, Jd, Je, Ya, Jf, Yb, Jg, Jh, Y8, Yc, Ji, Yd, Ye, Yf, Yg, Yh, Y2, Jj, Qq, Jk, Yi, Jl, Jm, Yj, Y3, Yk, Yl, Y4, Ym, Y5, Yn, Qc, Yo, Jn, Yp, Yq, Y6, Yr, Qd, Jo, Jp, Y7, Ys, Yt, Yu, Yv, Yw, Yx, Jq, Jr, Qr, Js, Yy, Qe, Qs, List.set_cons_zero, List.set_cons_succ, List.map_cons, List.map_nil, List.replicate, List.cons_append, List.nil_append, List.length_cons, List.length_nil, Bool.false_eq_true, eq_self, if_true, if_false, Nat.zero_add, Jt, Yz, Ju, Jv, Jw, Y0, Jx, true_and, rngD_len]
  refine ⟨decide_eq_true (by omega), ?_⟩
  refine ok_lcI (fun i acc s => ∃ (t' : Feed) (xs pool : List Str), acc = xs.map .str ∧ s = feedOb t' :: (r ++ [.lst (pool.map .str)]) ∧ xs.length = i ∧ (xs ++ pool).Perm ns ∧ t'.Wf ∧ t'.calls = f.calls + i)
    (fun _ _ _ _ => rfl) (fun i d acc s hd h => ?_) (fun acc s h => ?_) ⟨f, [], ns, rfl, rfl, rfl, List.Perm.refl _, hw, by simp⟩
  · obtain ⟨t', xs, pool, rfl, rfl, rfl, hp, hw', hc'⟩ := h
    obtain ⟨hi, rfl⟩ := rngD_get hd
    have hpl : xs.length + pool.length = ns.length := by rw [← List.length_append, hp.length_eq]
    have hl : (feedOb t' :: (r ++ [Ob.lst (pool.map .str)]))[r.length + 1]? = some (.lst (pool.map .str)) := st_get1
    simp only [Y1, Qf, Qt, Qu, Qa, Qg, Qv, Qw, Qx, Qy, Qh, Qz, Jy, Qi, Qb, Qj, Qk, Q0, Jz, Q1, Q2, J0, Q3, Q4, J1, Ql, Qm, Qn, Q5, Qo, Q6, Qp, Q7, Q8, J2, Q9, Ja, J3, J4, J5, Jb, J6, J7, Jc, J8, J9, Jd, Je, Ya, Jf, Yb, Jg, Jh, Y8, Yc, Ji, Yd, Ye, Yf, Yg, Yh, Y2, Jj, Qq, Jk, Yi, Jl, Jm, Yj, Y3, Yk, Yl, Y4, Ym, Y5, Yn, Qc, Yo, Jn, Yp, Yq, Y6, Yr, Qd, Jo, Jp, Y7, Ys, Yt, Yu, Yv, Yw, Yx, Jq, Jr, Qr, Js, Yy, Qe, Qs, List.set_cons_zero, List.set_cons_succ, List.map_cons, List.map_nil, List.replicate, List.cons_append, List.nil_append, List.length_cons, List.length_nil, Bool.false_eq_true, eq_self, if_true, if_false, Nat.zero_add, Jt, Yz, Ju, Jv, Jw, Y0, Jx, true_and, wipeZ]
    refine ⟨isL_loc hl, ?_⟩
    simp only [Y1, Qf, Qt, Qu, Qa, Qg, Qv, Qw, Qx, Qy, Qh, Qz, Jy, Qi, Qb, Qj, Qk, Q0, Jz, Q1, Q2, J0, Q3, Q4, J1, Ql, Qm, Qn, Q5, Qo, Q6, Qp, Q7, Q8, J2, Q9, Ja, J3, J4, J5, Jb, J6, J7, Jc, J8, J9, Jd, Je, Ya, Jf, Yb, Jg, Jh, Y8, Yc, Ji, Yd, Ye, Yf, Yg, Yh, Y2, Jj, Qq, Jk, Yi, Jl, Jm, Yj, Y3, Yk, Yl, Y4, Ym, Y5, Yn, Qc, Yo, Jn, Yp, Yq, Y6, Yr, Qd, Jo, Jp, Y7, Ys, Yt, Yu, Yv, Yw, Yx, Jq, Jr, Qr, Js, Yy, Qe, Qs, List.set_cons_zero, List.set_cons_succ, List.map_cons, List.map_nil, List.replicate, List.cons_append, List.nil_append, List.length_cons, List.length_nil, Bool.false_eq_true, eq_self, if_true, if_false, Nat.zero_add, Jt, Yz, Ju, Jv, Jw, Y0, Jx, true_and, len_loc hl]
    refine (ht t' (r ++ [.lst (pool.map .str)]) ((pool.map Dv.str).length : Int) hw' (by omega) (by rw [List.length_map]; omega) (by rw [List.length_map]; omega) (hf.app (.one (belows_strs _ _)))).mono ?_
    rintro d s ⟨x, t2, rfl, hx0, hx1, rfl, hw2, hc2⟩
    rw [List.length_map] at hx1
    have hxn : x.toNat < pool.length := by omega
    simp only [Y1, Qf, Qt, Qu, Qa, Qg, Qv, Qw, Qx, Qy, Qh, Qz, Jy, Qi, Qb, Qj, Qk, Q0, Jz, Q1, Q2, J0, Q3, Q4, J1, Ql, Qm, Qn, Q5, Qo, Q6, Qp, Q7, Q8, J2, Q9, Ja, J3, J4, J5, Jb, J6, J7, Jc, J8, J9, Jd, Je, Ya, Jf, Yb, Jg, Jh, Y8, Yc, Ji, Yd, Ye, Yf, Yg, Yh, Y2, Jj, Qq, Jk, Yi, Jl, Jm, Yj, Y3, Yk, Yl, Y4, Ym, Y5, Yn, Qc, Yo, Jn, Yp, Yq, Y6, Yr, Qd, Jo, Jp, Y7, Ys, Yt, Yu, Yv, Yw, Yx, Jq, Jr, Qr, Js, Yy, Qe, Qs, List.set_cons_zero, List.set_cons_succ, List.map_cons, List.map_nil, List.replicate, List.cons_append, List.nil_append, List.length_cons, List.length_nil, Bool.false_eq_true, eq_self, if_true, if_false, Nat.zero_add, Jt, Yz, Ju, Jv, Jw, Y0, Jx, true_and]
    rw [popAt_loc (d := .str pool[x.toNat]) (ds := pool.map .str) st_get1 hx0 (by omega) (str_get hxn), Y1, st_set1]
    refine ⟨t2, xs ++ [pool[x.toNat]], pool.eraseIdx x.toNat, by simp, by rw [map_erase], by simp, ?_, hw2, by rw [hc2, hc']; push_cast; omega⟩
    rw [List.append_assoc]
    refine List.Perm.trans (List.Perm.append_left _ ?_) hp
    show (pool[x.toNat] :: pool.eraseIdx x.toNat).Perm pool
    exact erase_perm pool x.toNat hxn
  · obtain ⟨t', xs, pool, rfl, rfl, hxl, hp, hw', hc'⟩ := h
    rw [rngD_len] at hxl hc'
    simp only [Y1, Qf, Qt, Qu, Qa, Qg, Qv, Qw, Qx, Qy, Qh, Qz, Jy, Qi, Qb, Qj, Qk, Q0, Jz, Q1, Q2, J0, Q3, Q4, J1, Ql, Qm, Qn, Q5, Qo, Q6, Qp, Q7, Q8, J2, Q9, Ja, J3, J4, J5, Jb, J6, J7, Jc, J8, J9, Jd, Je, Ya, Jf, Yb, Jg, Jh, Y8, Yc, Ji, Yd, Ye, Yf, Yg, Yh, Y2, Jj, Qq, Jk, Yi, Jl, Jm, Yj, Y3, Yk, Yl, Y4, Ym, Y5, Yn, Qc, Yo, Jn, Yp, Yq, Y6, Yr, Qd, Jo, Jp, Y7, Ys, Yt, Yu, Yv, Yw, Yx, Jq, Jr, Qr, Js, Yy, Qe, Qs, List.set_cons_zero, List.set_cons_succ, List.map_cons, List.map_nil, List.replicate, List.cons_append, List.nil_append, List.length_cons, List.length_nil, Bool.false_eq_true, eq_self, if_true, if_false, Nat.zero_add, Jt, Yz, Ju, Jv, Jw, Y0, Jx, true_and, sorted_ls, tuple_ls]
    refine fin_feed hf (below_encS 0 (srtS xs)) ⟨srtS xs, t', rfl, fun x hx => hp.mem_iff.mp (List.mem_append.mpr (.inl ((srtS_perm xs).mem_iff.mp hx))), fun hn => (srtS_perm xs).nodup_iff.mpr (List.nodup_append.mp (hp.nodup_iff.mpr hn)).1, by rw [srtS_len]; omega, rfl, hw', by omega, by omega⟩
end Z

namespace Z
open PySem PySem.Spec L2

/-! ### counts of the second family -/
structure PilB (lots : List Str) (p : Pil) : Prop where
  name : p.name ∈ lots
  many0 : 0 ≤ p.many
  many1 : p.many ≤ 1000000
  slip0 : 0 ≤ p.slip
  slip1 : p.slip ≤ 10000
  oth : ∀ x ∈ p.others, x ∈ lots ∧ x ≠ p.name
  noth : p.others.length ≤ 2
  ond : p.others.Nodup
structure CntB (c : Cnt) : Prop where
  len2 : 2 ≤ c.lots.length
  len6 : c.lots.length ≤ 6
  nd : c.lots.Nodup
  pool : ∀ x ∈ c.lots, x ∈ pool6
  piles : ∀ p ∈ c.piles, PilB c.lots p
  npiles : c.piles.length ≤ 10
  doubts : ∀ d ∈ c.doubts, d ≠ [] ∧ d.length ≤ 6 ∧ d.Nodup ∧ ∀ x ∈ d, x ∈ c.lots
  ndoubts : c.doubts.length ≤ 12
theorem CntB.word {c : Cnt} (h : CntB c) {x : Str} (hx : x ∈ c.lots) : isWordS x = true := pool6_word x (h.pool x hx)
theorem gd_encPB {n : Nat} {c : Cnt} (hc : CntB c) {p : Pil} (hp : p ∈ c.piles) : gd (n + 3) (encP p) = true := by
  have h := hc.piles p hp
  have e : gd (n + 2) (encS p.others) = true := gd_encS fun x hx => (word_ok (hc.word (h.oth x hx).1)).1
  have h1 := h.many0; have h2 := h.many1; have h3 := h.slip0; have h4 := h.slip1
  show gds (n + 2) [_, _, _, _] = true
  simp only [gds, Bool.and_eq_true, e, gd, (word_ok (hc.word h.name)).1, decide_eq_true_eq]
  refine ⟨trivial, by omega, by omega, trivial, trivial⟩
theorem wd_encPB {c : Cnt} (hc : CntB c) {p : Pil} (hp : p ∈ c.piles) : wd (encP p) ≤ 120 := by
  have h := hc.piles p hp
  have h1 := (word_ok (hc.word h.name)).2
  have h2 := wd_encS (fun x hx => hc.word (h.oth x hx).1) h.noth
  simp only [encP, wd, wds]
  omega
theorem gd_encCB {n : Nat} {c : Cnt} (hc : CntB c) : gd (n + 5) (encC c) = true := by
  show gds (n + 4) [_, _, _] = true
  simp only [gds, Bool.and_eq_true]
  refine ⟨gd_encS (n := n + 2) fun x hx => (word_ok (hc.word hx)).1, ?_, ?_, trivial⟩
  · show gds (n + 3) (c.piles.map encP) = true
    exact gds_map fun p hp => gd_encPB hc hp
  · show gds (n + 3) (c.doubts.map encS) = true
    exact gds_map fun d hd => gd_encS (n := n + 1) fun x hx => (word_ok (hc.word ((hc.doubts d hd).2.2.2 x hx))).1
theorem wd_encCB {c : Cnt} (hc : CntB c) : wd (encC c) ≤ 2000 := by
  have h1 := wd_encS (fun x hx => hc.word hx) hc.len6
  have h2 := wds_map (f := encP) (c := 120) (xs := c.piles) fun p hp => wd_encPB hc hp
  have h3 := wds_map (f := encS) (c := 54) (xs := c.doubts) fun d hd => wd_encS (fun x hx => hc.word ((hc.doubts d hd).2.2.2 x hx)) (hc.doubts d hd).2.1
  have h4 : c.piles.length * (120 + 1) ≤ 10 * 121 := Nat.mul_le_mul_right _ hc.npiles
  have h5 : c.doubts.length * (54 + 1) ≤ 12 * 55 := Nat.mul_le_mul_right _ hc.ndoubts
  simp only [encC, wd, wds]
  omega
/-- one of four pairs, drawn -/
theorem pickT4 {a b c d e f g h x : Int} (h0 : 0 ≤ x) (h1 : x < 4) : ∃ y z, (∀ s : Sto, gIx (.ls [.tup [.int a, .int b], .tup [.int c, .int d], .tup [.int e, .int f], .tup [.int g, .int h]]) (.int x) s = .ok (.tup [.int y, .int z]) s) ∧ ((y = a ∧ z = b) ∨ (y = c ∧ z = d) ∨ (y = e ∧ z = f) ∨ (y = g ∧ z = h)) := by
  have : x = 0 ∨ x = 1 ∨ x = 2 ∨ x = 3 := by omega
  rcases this with rfl | rfl | rfl | rfl
  · exact ⟨a, b, fun _ => rfl, .inl ⟨rfl, rfl⟩⟩
  · exact ⟨c, d, fun _ => rfl, .inr (.inl ⟨rfl, rfl⟩)⟩
  · exact ⟨e, f, fun _ => rfl, .inr (.inr (.inl ⟨rfl, rfl⟩))⟩
  · exact ⟨g, h, fun _ => rfl, .inr (.inr (.inr ⟨rfl, rfl⟩))⟩
theorem pick2g {a b x : Int} (h0 : 0 ≤ x) (h1 : x < 2) : ∃ y, (∀ s : Sto, gIx (.ls [.int a, .int b]) (.int x) s = .ok (.int y) s) ∧ (y = a ∨ y = b) ∧ (x = 0 → y = a) := by
  have : x = 0 ∨ x = 1 := by omega
  rcases this with rfl | rfl
  · exact ⟨a, fun _ => rfl, .inl rfl, fun _ => rfl⟩
  · exact ⟨b, fun _ => rfl, .inr rfl, fun h => absurd h (by decide)⟩
def bCountB4 (φd φs : Phi) : Fn Ct :=
  (fSeq (fSet 10 (fVal (fLc (fRng1 (fCons (fBin gIx (fVal (fLst (fCons (fCall φd (fCons (fVar 0) (fCons (fC (.int 5)) (fNil)))) (fCons (fC (.int 12)) (fNil))))) (fVar 1)) (fNil))) [7] (gNm 7) (fYes) (fCall φs (fCons (fVar 0) (fCons (fVar 2) (fCons (fBin gAdd (fC (.int 1)) (fCall φd (fCons (fVar 0) (fCons (fCall gLen (fCons (fVar 2) (fNil))) (fNil))))) (fNil))))))))
  (fRet (fTup (fCons (fVar 2) (fCons (fCall gTuple (fCons (fVar 5) (fNil))) (fCons (fCall gTuple (fCons (fVar 10) (fNil))) (fNil)))))))
def bCountB3 (φd : Phi) : Fn Ct :=
  (fDrop (fMt isL gAppend (fVar 5) (fCons (fTup (fCons (fVar 8) (fCons (fCall φd (fCons (fVar 0) (fCons (fBin gAdd (fVar 3) (fC (.int 1))) (fNil)))) (fCons (fCall φd (fCons (fVar 0) (fCons (fBin gAdd (fVar 4) (fC (.int 1))) (fNil)))) (fCons (fVar 9) (fNil)))))) (fNil))))
def bCountB2 (φd φs : Phi) : Fn Ct :=
  (fSeq (fSet 8 (fBin gIx (fVar 2) (fCall φd (fCons (fVar 0) (fCons (fCall gLen (fCons (fVar 2) (fNil))) (fNil))))))
  (fSeq (fSet 9 (fTup (fNil)))
  (fSeq (fIfS (fAndT (fTest (fBin gLt (fVar 6) (fC (.int 3)))) (fTest (fBin gEq (fCall φd (fCons (fVar 0) (fCons (fC (.int 3)) (fNil)))) (fC (.int 0))))) (fSeq (fSet 9 (fCall φs (fCons (fVar 0) (fCons (fVal (fLc (fSrc (fVar 2)) [11] (gNm 11) (fTest (fBin gNe (fVar 11) (fVar 8))) (fVar 11))) (fCons (fBin gAdd (fC (.int 1)) (fCall φd (fCons (fVar 0) (fCons (fC (.int 2)) (fNil))))) (fNil))))))
  (fSet 6 (fBin gAdd (fVar 6) (fC (.int 1))))) (fNop))
  (bCountB3 φd))))
def bCountB1 (φd φs : Phi) : Fn Ct :=
  (fSeq (fPar2 5 6 (fCons (fNew (fLst (fNil))) (fCons (fC (.int 0)) (fNil))))
  (fSeq (fFor (fRng1 (fCons (fBin gIx (fVal (fLst (fCons (fCall φd (fCons (fVar 0) (fCons (fC (.int 6)) (fNil)))) (fCons (fC (.int 10)) (fNil))))) (fVar 1)) (fNil))) (gNm 7) (bCountB2 φd φs))
  (bCountB4 φd φs)))
def bCountB (φd φl φs : Phi) : Fn Ct :=
  fSeq (fSet 2 (fCall φl (fCons (fVar 0) (fNil))))
  (fSeq (fAsg (fBin gIx (fVal (fLst (fCons (fTup (fCons (fC (.int 3)) (fCons (fC (.int 2)) (fNil)))) (fCons (fTup (fCons (fC (.int 3)) (fCons (fC (.int 2)) (fNil)))) (fCons (fTup (fCons (fC (.int 12)) (fCons (fC (.int 5)) (fNil)))) (fCons (fTup (fCons (fBin gPow (fC (.int 10)) (fC (.int 6))) (fCons (fBin gPow (fC (.int 10)) (fC (.int 4))) (fNil)))) (fNil))))))) (fCall φd (fCons (fVar 0) (fCons (fC (.int 4)) (fNil))))) (gTp 2 (gsCons (gNm 3) (gsCons (gNm 4) (gsNil)))))
  (bCountB1 φd φs))
def CountB (φ : Phi) : Prop := ∀ (f : Feed) (r : Sto) (g : Int), f.Wf → f.calls + 400 ≤ 1000000 → 0 ≤ g → g < 2 → Fl r → OkE nX (φ [.loc 0, .int g] (feedOb f :: r)) fun d s' => ∃ (c : Cnt) (f' : Feed), d = encC c ∧ CntB c ∧
  s' = feedOb f' :: r ∧ f'.Wf ∧ f.calls ≤ f'.calls ∧ f'.calls ≤ f.calls + 300
def CountG (φ : Phi) : Prop := ∀ (f : Feed) (r : Sto) (g : Int), f.Wf → f.calls + 400 ≤ 1000000 → 0 ≤ g → g < 2 → Fl r → OkE nX (φ [.loc 0, .int g] (feedOb f :: r)) fun d s' => ∃ (c : Cnt) (f' : Feed), d = encC c ∧ CntB c ∧
  s' = feedOb f' :: r ∧ f'.Wf ∧ f.calls ≤ f'.calls ∧ f'.calls ≤ f.calls + 300 ∧ (g = 0 → c.piles.length ≤ 5 ∧ c.doubts.length ≤ 4)
theorem others_ls {lots : List Str} {z : Str} : ((lots.map Dv.str).filter fun d => match d with | .str x => !(x == z) | _ => false).map (fun d => d) = (lots.filter fun x => !(x == z)).map .str := by
  rw [List.map_id', List.filter_map]; rfl
theorem countG_spec {φd φl φs : Phi} (ht : DrawS φd) (hl : LotsB φl) (hs : SomeB φs) : CountG (fDef 2 12 (bCountB φd φl φs)) := by
  intro f r g hw hc hg0 hg1 hf
  rw [ok_def]
  refine ⟨rfl, ?_⟩
  unfold bCountB
  simp only [Y1, Qf, Qt, Qu, Qa, Qg, Qv, Qw, Qx, Qy, Qh, Qz, Jy, Qi, Qb, Qj, Qk, Q0, Jz, Q1, Q2, J0, Q3, Q4, J1, Ql, Qm, Qn, Q5, Qo, Q6, Qp, Q7, Q8, J2, Q9, Ja, J3, J4, J5, Jb, J6, J7, Jc, J8, J9, Jd, Je, Ya, Jf, Yb, Jg, Jh, Y8, Yc, Ji, Yd, Ye, Yf, Yg, Yh, Y2, Jj, Qq, Jk, Yi, Jl, Jm, Yj, Y3, Yk, Yl, Y4, Ym, Y5, Yn, Qc, Yo, Jn, Yp, Yq, Y6, Yr, Qd, Jo, Jp, Y7, Ys, Yt, Yu, Yv, Yw, Yx, Jq, Jr, Qr, Js, Yy, Qe, Qs, List.set_cons_zero, List.set_cons_succ, List.map_cons, List.map_nil, List.replicate, List.cons_append, List.nil_append, List.length_cons, List.length_nil, Bool.false_eq_true, eq_self, if_true, if_false, Nat.zero_add, Jt, Yz, Ju, Jv, Jw, Y0, Jx, true_and]
  refine (hl f r hw (by omega) hf).mono ?_
  rintro d s ⟨lots, f1, rfl, hl2, hl6, hnd, hpool, rfl, hw1, hg1', hl1⟩
  simp only [Y1, Qf, Qt, Qu, Qa, Qg, Qv, Qw, Qx, Qy, Qh, Qz, Jy, Qi, Qb, Qj, Qk, Q0, Jz, Q1, Q2, J0, Q3, Q4, J1, Ql, Qm, Qn, Q5, Qo, Q6, Qp, Q7, Q8, J2, Q9, Ja, J3, J4, J5, Jb, J6, J7, Jc, J8, J9, Jd, Je, Ya, Jf, Yb, Jg, Jh, Y8, Yc, Ji, Yd, Ye, Yf, Yg, Yh, Y2, Jj, Qq, Jk, Yi, Jl, Jm, Yj, Y3, Yk, Yl, Y4, Ym, Y5, Yn, Qc, Yo, Jn, Yp, Yq, Y6, Yr, Qd, Jo, Jp, Y7, Ys, Yt, Yu, Yv, Yw, Yx, Jq, Jr, Qr, Js, Yy, Qe, Qs, List.set_cons_zero, List.set_cons_succ, List.map_cons, List.map_nil, List.replicate, List.cons_append, List.nil_append, List.length_cons, List.length_nil, Bool.false_eq_true, eq_self, if_true, if_false, Nat.zero_add, Jt, Yz, Ju, Jv, Jw, Y0, Jx, true_and, pow_ok (show (0 : Int) ≤ 6 ∧ (6 : Int) ≤ 1000000 by decide) (show -(2 ^ 64) < (10 : Int) ∧ (10 : Int) < 2 ^ 64 by decide), pow_ok (show (0 : Int) ≤ 4 ∧ (4 : Int) ≤ 1000000 by decide) (show -(2 ^ 64) < (10 : Int) ∧ (10 : Int) < 2 ^ 64 by decide)]
  refine ⟨rfl, rfl, rfl, rfl, rfl, ?_⟩
  refine (ht f1 r 4 hw1 (by omega) (by omega) (by omega) hf).mono ?_
  rintro d s ⟨x, f2, rfl, hx0, hx1, rfl, hw2, hc2⟩
  obtain ⟨most, off, em, hmo⟩ := pickT4 (a := 3) (b := 2) (c := 3) (d := 2) (e := 12) (f := 5) (g := 10 ^ Int.toNat 6) (h := 10 ^ Int.toNat 4) hx0 hx1
  have p6 : (10 : Int) ^ Int.toNat 6 = 1000000 := by decide
  have p4 : (10 : Int) ^ Int.toNat 4 = 10000 := by decide
  have hmost : 0 ≤ most ∧ most ≤ 1000000 ∧ 0 ≤ off ∧ off ≤ 10000 := by omega
  simp only [Y1, Qf, Qt, Qu, Qa, Qg, Qv, Qw, Qx, Qy, Qh, Qz, Jy, Qi, Qb, Qj, Qk, Q0, Jz, Q1, Q2, J0, Q3, Q4, J1, Ql, Qm, Qn, Q5, Qo, Q6, Qp, Q7, Q8, J2, Q9, Ja, J3, J4, J5, Jb, J6, J7, Jc, J8, J9, Jd, Je, Ya, Jf, Yb, Jg, Jh, Y8, Yc, Ji, Yd, Ye, Yf, Yg, Yh, Y2, Jj, Qq, Jk, Yi, Jl, Jm, Yj, Y3, Yk, Yl, Y4, Ym, Y5, Yn, Qc, Yo, Jn, Yp, Yq, Y6, Yr, Qd, Jo, Jp, Y7, Ys, Yt, Yu, Yv, Yw, Yx, Jq, Jr, Qr, Js, Yy, Qe, Qs, List.set_cons_zero, List.set_cons_succ, List.map_cons, List.map_nil, List.replicate, List.cons_append, List.nil_append, List.length_cons, List.length_nil, Bool.false_eq_true, eq_self, if_true, if_false, Nat.zero_add, Jt, Yz, Ju, Jv, Jw, Y0, Jx, true_and, em, Qp]
  refine ⟨rfl, ?_⟩
  unfold bCountB1
  simp only [Y1, Qf, Qt, Qu, Qa, Qg, Qv, Qw, Qx, Qy, Qh, Qz, Jy, Qi, Qb, Qj, Qk, Q0, Jz, Q1, Q2, J0, Q3, Q4, J1, Ql, Qm, Qn, Q5, Qo, Q6, Qp, Q7, Q8, J2, Q9, Ja, J3, J4, J5, Jb, J6, J7, Jc, J8, J9, Jd, Je, Ya, Jf, Yb, Jg, Jh, Y8, Yc, Ji, Yd, Ye, Yf, Yg, Yh, Y2, Jj, Qq, Jk, Yi, Jl, Jm, Yj, Y3, Yk, Yl, Y4, Ym, Y5, Yn, Qc, Yo, Jn, Yp, Yq, Y6, Yr, Qd, Jo, Jp, Y7, Ys, Yt, Yu, Yv, Yw, Yx, Jq, Jr, Qr, Js, Yy, Qe, Qs, List.set_cons_zero, List.set_cons_succ, List.map_cons, List.map_nil, List.replicate, List.cons_append, List.nil_append, List.length_cons, List.length_nil, Bool.false_eq_true, eq_self, if_true, if_false, Nat.zero_add, Jt, Yz, Ju, Jv, Jw, Y0, Jx, true_and]
  refine ⟨rfl, ?_⟩
  have hfr : ∀ ps : List Pil, Fl (r ++ [Ob.lst (ps.map encP)]) := fun ps => hf.app (.one (belows_map (below_encP 0) ps))
  refine (ht f2 _ 6 hw2 (by omega) (by omega) (by omega) (hfr [])).mono ?_
  rintro d s ⟨n6, f3, rfl, hn0, hn1, rfl, hw3, hc3⟩
  obtain ⟨np, enp, hnp, hnpg⟩ := pick2g (a := n6) (b := 10) hg0 hg1
  have hnp10 : 0 ≤ np ∧ np ≤ 10 := by omega
  simp only [Y1, Qf, Qt, Qu, Qa, Qg, Qv, Qw, Qx, Qy, Qh, Qz, Jy, Qi, Qb, Qj, Qk, Q0, Jz, Q1, Q2, J0, Q3, Q4, J1, Ql, Qm, Qn, Q5, Qo, Q6, Qp, Q7, Q8, J2, Q9, Ja, J3, J4, J5, Jb, J6, J7, Jc, J8, J9, Jd, Je, Ya, Jf, Yb, Jg, Jh, Y8, Yc, Ji, Yd, Ye, Yf, Yg, Yh, Y2, Jj, Qq, Jk, Yi, Jl, Jm, Yj, Y3, Yk, Yl, Y4, Ym, Y5, Yn, Qc, Yo, Jn, Yp, Yq, Y6, Yr, Qd, Jo, Jp, Y7, Ys, Yt, Yu, Yv, Yw, Yx, Jq, Jr, Qr, Js, Yy, Qe, Qs, List.set_cons_zero, List.set_cons_succ, List.map_cons, List.map_nil, List.replicate, List.cons_append, List.nil_append, List.length_cons, List.length_nil, Bool.false_eq_true, eq_self, if_true, if_false, Nat.zero_add, Jt, Yz, Ju, Jv, Jw, Y0, Jx, true_and, enp]
  refine ⟨rfl, inRng_small (by omega) (by omega), ?_⟩
  refine ok_loop (fun i env s => ∃ (t' : Feed) (ps : List Pil) (wrong : Int) (v7 v8 v9 : Option Dv), env = [some (.loc 0), some (.int g), some (encS lots), some (.int most), some (.int off), some (.loc (r.length + 1)), some (.int wrong), v7, v8, v9, none, none] ∧
      s = feedOb t' :: (r ++ [.lst (ps.map encP)]) ∧ ps.length = i ∧ (∀ p ∈ ps, PilB lots p) ∧ t'.Wf ∧ f.calls ≤ t'.calls ∧ t'.calls ≤ f.calls + 12 + 12 * i)
    (fun _ _ _ _ => rfl) (fun i d env s hd h => ?_) (fun env s h => ?_) ⟨f3, [], 0, _, _, _, rfl, rfl, rfl, fun p hp => absurd hp List.not_mem_nil, hw3, by omega, by omega⟩
  · obtain ⟨t1, ps, wrong, v7, v8, v9, rfl, rfl, rfl, hps, hwa, hga, hla⟩ := h
    obtain ⟨hi, rfl⟩ := rngD_get hd
    unfold bCountB2
    simp only [Y1, Qf, Qt, Qu, Qa, Qg, Qv, Qw, Qx, Qy, Qh, Qz, Jy, Qi, Qb, Qj, Qk, Q0, Jz, Q1, Q2, J0, Q3, Q4, J1, Ql, Qm, Qn, Q5, Qo, Q6, Qp, Q7, Q8, J2, Q9, Ja, J3, J4, J5, Jb, J6, J7, Jc, J8, J9, Jd, Je, Ya, Jf, Yb, Jg, Jh, Y8, Yc, Ji, Yd, Ye, Yf, Yg, Yh, Y2, Jj, Qq, Jk, Yi, Jl, Jm, Yj, Y3, Yk, Yl, Y4, Ym, Y5, Yn, Qc, Yo, Jn, Yp, Yq, Y6, Yr, Qd, Jo, Jp, Y7, Ys, Yt, Yu, Yv, Yw, Yx, Jq, Jr, Qr, Js, Yy, Qe, Qs, List.set_cons_zero, List.set_cons_succ, List.map_cons, List.map_nil, List.replicate, List.cons_append, List.nil_append, List.length_cons, List.length_nil, Bool.false_eq_true, eq_self, if_true, if_false, Nat.zero_add, Jt, Yz, Ju, Jv, Jw, Y0, Jx, true_and, len_encS]
    refine (ht t1 _ lots.length hwa (by omega) (by omega) (by omega) (hfr ps)).mono ?_
    rintro d s ⟨y, t2, rfl, hy0, hy1, rfl, hwb, hcb⟩
    have hyn : y.toNat < lots.length := by omega
    have ey : ∀ s : Sto, gIx (encS lots) (.int y) s = .ok (.str lots[y.toNat]) s := fun s => ix_tup hy0 (str_get hyn)
    simp only [Y1, Qf, Qt, Qu, Qa, Qg, Qv, Qw, Qx, Qy, Qh, Qz, Jy, Qi, Qb, Qj, Qk, Q0, Jz, Q1, Q2, J0, Q3, Q4, J1, Ql, Qm, Qn, Q5, Qo, Q6, Qp, Q7, Q8, J2, Q9, Ja, J3, J4, J5, Jb, J6, J7, Jc, J8, J9, Jd, Je, Ya, Jf, Yb, Jg, Jh, Y8, Yc, Ji, Yd, Ye, Yf, Yg, Yh, Y2, Jj, Qq, Jk, Yi, Jl, Jm, Yj, Y3, Yk, Yl, Y4, Ym, Y5, Yn, Qc, Yo, Jn, Yp, Yq, Y6, Yr, Qd, Jo, Jp, Y7, Ys, Yt, Yu, Yv, Yw, Yx, Jq, Jr, Qr, Js, Yy, Qe, Qs, List.set_cons_zero, List.set_cons_succ, List.map_cons, List.map_nil, List.replicate, List.cons_append, List.nil_append, List.length_cons, List.length_nil, Bool.false_eq_true, eq_self, if_true, if_false, Nat.zero_add, Jt, Yz, Ju, Jv, Jw, Y0, Jx, true_and, ey, lt_int]
    refine ⟨rfl, ?_⟩
    -- the last of it
    have last : ∀ (t3 : Feed) (os : List Str) (wr : Int) (v11 : Option Dv), t3.Wf → f.calls ≤ t3.calls → t3.calls ≤ t1.calls + 9 → (∀ x ∈ os, x ∈ lots ∧ x ≠ lots[y.toNat]) → os.length ≤ 2 → os.Nodup →
        OkE nX (bCountB3 φd [some (.loc 0), some (.int g), some (encS lots), some (.int most), some (.int off), some (.loc (r.length + 1)), some (.int wr), some (.int (0 + (ps.length : Int))), some (.str lots[y.toNat]), some (encS os), none, none] (feedOb t3 :: (r ++ [.lst (ps.map encP)]))) fun c s2 => match c with
          | .next env => ∃ (t' : Feed) (ps' : List Pil) (wrong : Int) (v7 v8 v9 : Option Dv), env = [some (.loc 0), some (.int g), some (encS lots), some (.int most), some (.int off), some (.loc (r.length + 1)), some (.int wrong), v7, v8, v9, none, none] ∧
              s2 = feedOb t' :: (r ++ [.lst (ps'.map encP)]) ∧ ps'.length = ps.length + 1 ∧ (∀ p ∈ ps', PilB lots p) ∧ t'.Wf ∧ f.calls ≤ t'.calls ∧ t'.calls ≤ f.calls + 12 + 12 * ((ps.length + 1 : Nat) : Int)
          | _ => False := by
      intro t3 os wr v11 hwc hgc hlc ho1 ho2 ho3
      unfold bCountB3
      simp only [Y1, Qf, Qt, Qu, Qa, Qg, Qv, Qw, Qx, Qy, Qh, Qz, Jy, Qi, Qb, Qj, Qk, Q0, Jz, Q1, Q2, J0, Q3, Q4, J1, Ql, Qm, Qn, Q5, Qo, Q6, Qp, Q7, Q8, J2, Q9, Ja, J3, J4, J5, Jb, J6, J7, Jc, J8, J9, Jd, Je, Ya, Jf, Yb, Jg, Jh, Y8, Yc, Ji, Yd, Ye, Yf, Yg, Yh, Y2, Jj, Qq, Jk, Yi, Jl, Jm, Yj, Y3, Yk, Yl, Y4, Ym, Y5, Yn, Qc, Yo, Jn, Yp, Yq, Y6, Yr, Qd, Jo, Jp, Y7, Ys, Yt, Yu, Yv, Yw, Yx, Jq, Jr, Qr, Js, Yy, Qe, Qs, List.set_cons_zero, List.set_cons_succ, List.map_cons, List.map_nil, List.replicate, List.cons_append, List.nil_append, List.length_cons, List.length_nil, Bool.false_eq_true, eq_self, if_true, if_false, Nat.zero_add, Jt, Yz, Ju, Jv, Jw, Y0, Jx, true_and, add_int]
      refine ⟨isL_loc st_get1, ?_⟩
      refine (ht t3 _ (most + 1) hwc (by omega) (by omega) (by omega) (hfr ps)).mono ?_
      rintro d s ⟨mn, t4, rfl, hm0, hm1, rfl, hwd, hcd⟩
      simp only [Y1, Qf, Qt, Qu, Qa, Qg, Qv, Qw, Qx, Qy, Qh, Qz, Jy, Qi, Qb, Qj, Qk, Q0, Jz, Q1, Q2, J0, Q3, Q4, J1, Ql, Qm, Qn, Q5, Qo, Q6, Qp, Q7, Q8, J2, Q9, Ja, J3, J4, J5, Jb, J6, J7, Jc, J8, J9, Jd, Je, Ya, Jf, Yb, Jg, Jh, Y8, Yc, Ji, Yd, Ye, Yf, Yg, Yh, Y2, Jj, Qq, Jk, Yi, Jl, Jm, Yj, Y3, Yk, Yl, Y4, Ym, Y5, Yn, Qc, Yo, Jn, Yp, Yq, Y6, Yr, Qd, Jo, Jp, Y7, Ys, Yt, Yu, Yv, Yw, Yx, Jq, Jr, Qr, Js, Yy, Qe, Qs, List.set_cons_zero, List.set_cons_succ, List.map_cons, List.map_nil, List.replicate, List.cons_append, List.nil_append, List.length_cons, List.length_nil, Bool.false_eq_true, eq_self, if_true, if_false, Nat.zero_add, Jt, Yz, Ju, Jv, Jw, Y0, Jx, true_and, add_int]
      refine (ht t4 _ (off + 1) hwd (by omega) (by omega) (by omega) (hfr ps)).mono ?_
      rintro d s ⟨sl, t5, rfl, hs0, hs1, rfl, hwe, hce⟩
      simp only [Y1, Qf, Qt, Qu, Qa, Qg, Qv, Qw, Qx, Qy, Qh, Qz, Jy, Qi, Qb, Qj, Qk, Q0, Jz, Q1, Q2, J0, Q3, Q4, J1, Ql, Qm, Qn, Q5, Qo, Q6, Qp, Q7, Q8, J2, Q9, Ja, J3, J4, J5, Jb, J6, J7, Jc, J8, J9, Jd, Je, Ya, Jf, Yb, Jg, Jh, Y8, Yc, Ji, Yd, Ye, Yf, Yg, Yh, Y2, Jj, Qq, Jk, Yi, Jl, Jm, Yj, Y3, Yk, Yl, Y4, Ym, Y5, Yn, Qc, Yo, Jn, Yp, Yq, Y6, Yr, Qd, Jo, Jp, Y7, Ys, Yt, Yu, Yv, Yw, Yx, Jq, Jr, Qr, Js, Yy, Qe, Qs, List.set_cons_zero, List.set_cons_succ, List.map_cons, List.map_nil, List.replicate, List.cons_append, List.nil_append, List.length_cons, List.length_nil, Bool.false_eq_true, eq_self, if_true, if_false, Nat.zero_add, Jt, Yz, Ju, Jv, Jw, Y0, Jx, true_and]
      refine ⟨rfl, ?_⟩
      rw [append_loc st_get1 (by rw [List.length_map]; omega), st_set1, Y1]
      refine ⟨t5, ps ++ [⟨lots[y.toNat], mn, sl, os⟩], wr, _, _, _, rfl, by simp [encP], by simp, fun q hq => ?_, hwe, by omega, by push_cast; omega⟩
      rcases List.mem_append.mp hq with z | z
      · exact hps q z
      · rw [List.mem_singleton.mp z]; exact ⟨List.getElem_mem _, hm0, by show mn ≤ 1000000; omega, hs0, by show sl ≤ 10000; omega, ho1, ho2, ho3⟩
    split
    · refine (ht t2 _ 3 hwb (by omega) (by omega) (by omega) (hfr ps)).mono ?_
      rintro d s ⟨w3, t3, rfl, hw0', hw1', rfl, hwc, hcc⟩
      simp only [Y1, Qf, Qt, Qu, Qa, Qg, Qv, Qw, Qx, Qy, Qh, Qz, Jy, Qi, Qb, Qj, Qk, Q0, Jz, Q1, Q2, J0, Q3, Q4, J1, Ql, Qm, Qn, Q5, Qo, Q6, Qp, Q7, Q8, J2, Q9, Ja, J3, J4, J5, Jb, J6, J7, Jc, J8, J9, Jd, Je, Ya, Jf, Yb, Jg, Jh, Y8, Yc, Ji, Yd, Ye, Yf, Yg, Yh, Y2, Jj, Qq, Jk, Yi, Jl, Jm, Yj, Y3, Yk, Yl, Y4, Ym, Y5, Yn, Qc, Yo, Jn, Yp, Yq, Y6, Yr, Qd, Jo, Jp, Y7, Ys, Yt, Yu, Yv, Yw, Yx, Jq, Jr, Qr, Js, Yy, Qe, Qs, List.set_cons_zero, List.set_cons_succ, List.map_cons, List.map_nil, List.replicate, List.cons_append, List.nil_append, List.length_cons, List.length_nil, Bool.false_eq_true, eq_self, if_true, if_false, Nat.zero_add, Jt, Yz, Ju, Jv, Jw, Y0, Jx, true_and, eq_int]
      split
      · unfold encS
        simp only [Y1, Qf, Qt, Qu, Qa, Qg, Qv, Qw, Qx, Qy, Qh, Qz, Jy, Qi, Qb, Qj, Qk, Q0, Jz, Q1, Q2, J0, Q3, Q4, J1, Ql, Qm, Qn, Q5, Qo, Q6, Qp, Q7, Q8, J2, Q9, Ja, J3, J4, J5, Jb, J6, J7, Jc, J8, J9, Jd, Je, Ya, Jf, Yb, Jg, Jh, Y8, Yc, Ji, Yd, Ye, Yf, Yg, Yh, Y2, Jj, Qq, Jk, Yi, Jl, Jm, Yj, Y3, Yk, Yl, Y4, Ym, Y5, Yn, Qc, Yo, Jn, Yp, Yq, Y6, Yr, Qd, Jo, Jp, Y7, Ys, Yt, Yu, Yv, Yw, Yx, Jq, Jr, Qr, Js, Yy, Qe, Qs, List.set_cons_zero, List.set_cons_succ, List.map_cons, List.map_nil, List.replicate, List.cons_append, List.nil_append, List.length_cons, List.length_nil, Bool.false_eq_true, eq_self, if_true, if_false, Nat.zero_add, Jt, Yz, Ju, Jv, Jw, Y0, Jx, true_and]
        refine ⟨decide_eq_true (by rw [List.length_map]; omega), ?_⟩
        refine ok_map (fun d => match d with | .str x => !(x == lots[y.toNat]) | _ => false) (fun d => d) (fun d hd => ?_) ?_
        · obtain ⟨x, hx, rfl⟩ := List.mem_map.mp hd
          simp only [Y1, Qf, Qt, Qu, Qa, Qg, Qv, Qw, Qx, Qy, Qh, Qz, Jy, Qi, Qb, Qj, Qk, Q0, Jz, Q1, Q2, J0, Q3, Q4, J1, Ql, Qm, Qn, Q5, Qo, Q6, Qp, Q7, Q8, J2, Q9, Ja, J3, J4, J5, Jb, J6, J7, Jc, J8, J9, Jd, Je, Ya, Jf, Yb, Jg, Jh, Y8, Yc, Ji, Yd, Ye, Yf, Yg, Yh, Y2, Jj, Qq, Jk, Yi, Jl, Jm, Yj, Y3, Yk, Yl, Y4, Ym, Y5, Yn, Qc, Yo, Jn, Yp, Yq, Y6, Yr, Qd, Jo, Jp, Y7, Ys, Yt, Yu, Yv, Yw, Yx, Jq, Jr, Qr, Js, Yy, Qe, Qs, List.set_cons_zero, List.set_cons_succ, List.map_cons, List.map_nil, List.replicate, List.cons_append, List.nil_append, List.length_cons, List.length_nil, Bool.false_eq_true, eq_self, if_true, if_false, Nat.zero_add, Jt, Yz, Ju, Jv, Jw, Y0, Jx, true_and, wipeZ, ne_str]
          split
          · first | trivial | exact ⟨rfl, rfl, rfl⟩
          · first | trivial | exact ⟨rfl, rfl⟩
        · rw [others_ls]
          simp only [Y1, Qf, Qt, Qu, Qa, Qg, Qv, Qw, Qx, Qy, Qh, Qz, Jy, Qi, Qb, Qj, Qk, Q0, Jz, Q1, Q2, J0, Q3, Q4, J1, Ql, Qm, Qn, Q5, Qo, Q6, Qp, Q7, Q8, J2, Q9, Ja, J3, J4, J5, Jb, J6, J7, Jc, J8, J9, Jd, Je, Ya, Jf, Yb, Jg, Jh, Y8, Yc, Ji, Yd, Ye, Yf, Yg, Yh, Y2, Jj, Qq, Jk, Yi, Jl, Jm, Yj, Y3, Yk, Yl, Y4, Ym, Y5, Yn, Qc, Yo, Jn, Yp, Yq, Y6, Yr, Qd, Jo, Jp, Y7, Ys, Yt, Yu, Yv, Yw, Yx, Jq, Jr, Qr, Js, Yy, Qe, Qs, List.set_cons_zero, List.set_cons_succ, List.map_cons, List.map_nil, List.replicate, List.cons_append, List.nil_append, List.length_cons, List.length_nil, Bool.false_eq_true, eq_self, if_true, if_false, Nat.zero_add, Jt, Yz, Ju, Jv, Jw, Y0, Jx, true_and]
          refine (ht t3 _ 2 hwc (by omega) (by omega) (by omega) (hfr ps)).mono ?_
          rintro d s ⟨k2, t4, rfl, hk0, hk1, rfl, hwd, hcd⟩
          simp only [Y1, Qf, Qt, Qu, Qa, Qg, Qv, Qw, Qx, Qy, Qh, Qz, Jy, Qi, Qb, Qj, Qk, Q0, Jz, Q1, Q2, J0, Q3, Q4, J1, Ql, Qm, Qn, Q5, Qo, Q6, Qp, Q7, Q8, J2, Q9, Ja, J3, J4, J5, Jb, J6, J7, Jc, J8, J9, Jd, Je, Ya, Jf, Yb, Jg, Jh, Y8, Yc, Ji, Yd, Ye, Yf, Yg, Yh, Y2, Jj, Qq, Jk, Yi, Jl, Jm, Yj, Y3, Yk, Yl, Y4, Ym, Y5, Yn, Qc, Yo, Jn, Yp, Yq, Y6, Yr, Qd, Jo, Jp, Y7, Ys, Yt, Yu, Yv, Yw, Yx, Jq, Jr, Qr, Js, Yy, Qe, Qs, List.set_cons_zero, List.set_cons_succ, List.map_cons, List.map_nil, List.replicate, List.cons_append, List.nil_append, List.length_cons, List.length_nil, Bool.false_eq_true, eq_self, if_true, if_false, Nat.zero_add, Jt, Yz, Ju, Jv, Jw, Y0, Jx, true_and, add_int]
          have hfl : (lots.filter fun x => !(x == lots[y.toNat])).length ≤ 6 := Nat.le_trans (List.length_filter_le _ _) hl6
          refine (hs t4 _ (.ls ((lots.filter fun x => !(x == lots[y.toNat])).map .str)) _ (1 + k2) hwd (by omega) (fun s => rfl) hfl (by omega) (by omega) (hfr ps)).mono ?_
          rintro d s ⟨os, t5, rfl, ho1, ho3, ho2, rfl, hwe, hge, hle⟩
          simp only [Y1, Qf, Qt, Qu, Qa, Qg, Qv, Qw, Qx, Qy, Qh, Qz, Jy, Qi, Qb, Qj, Qk, Q0, Jz, Q1, Q2, J0, Q3, Q4, J1, Ql, Qm, Qn, Q5, Qo, Q6, Qp, Q7, Q8, J2, Q9, Ja, J3, J4, J5, Jb, J6, J7, Jc, J8, J9, Jd, Je, Ya, Jf, Yb, Jg, Jh, Y8, Yc, Ji, Yd, Ye, Yf, Yg, Yh, Y2, Jj, Qq, Jk, Yi, Jl, Jm, Yj, Y3, Yk, Yl, Y4, Ym, Y5, Yn, Qc, Yo, Jn, Yp, Yq, Y6, Yr, Qd, Jo, Jp, Y7, Ys, Yt, Yu, Yv, Yw, Yx, Jq, Jr, Qr, Js, Yy, Qe, Qs, List.set_cons_zero, List.set_cons_succ, List.map_cons, List.map_nil, List.replicate, List.cons_append, List.nil_append, List.length_cons, List.length_nil, Bool.false_eq_true, eq_self, if_true, if_false, Nat.zero_add, Jt, Yz, Ju, Jv, Jw, Y0, Jx, true_and, add_int]
          refine (last t5 os (wrong + 1) none hwe (by omega) (by omega) (fun x hx => ?_) (by split at ho2 <;> omega) (ho3 (hnd.filter _))).mono ?_
          · have := List.mem_filter.mp (ho1 x hx)
            exact ⟨this.1, by simpa using this.2⟩
          · intro c s h
            cases c with
            | next e => exact h
            | _ => exact False.elim h
      · refine (last t3 [] wrong none hwc (by omega) (by omega) (fun x hx => absurd hx List.not_mem_nil) (by simp) List.nodup_nil).mono ?_
        intro c s h
        cases c with
        | next e => exact h
        | _ => exact False.elim h
    · refine (last t2 [] wrong none hwb (by omega) (by omega) (fun x hx => absurd hx List.not_mem_nil) (by simp) List.nodup_nil).mono ?_
      intro c s h
      cases c with
      | next e => exact h
      | _ => exact False.elim h
  · obtain ⟨t1, ps, wrong, v7, v8, v9, rfl, rfl, hpl, hps, hwa, hga, hla⟩ := h
    rw [rngD_len] at hpl hla
    unfold bCountB4
    simp only [Y1, Qf, Qt, Qu, Qa, Qg, Qv, Qw, Qx, Qy, Qh, Qz, Jy, Qi, Qb, Qj, Qk, Q0, Jz, Q1, Q2, J0, Q3, Q4, J1, Ql, Qm, Qn, Q5, Qo, Q6, Qp, Q7, Q8, J2, Q9, Ja, J3, J4, J5, Jb, J6, J7, Jc, J8, J9, Jd, Je, Ya, Jf, Yb, Jg, Jh, Y8, Yc, Ji, Yd, Ye, Yf, Yg, Yh, Y2, Jj, Qq, Jk, Yi, Jl, Jm, Yj, Y3, Yk, Yl, Y4, Ym, Y5, Yn, Qc, Yo, Jn, Yp, Yq, Y6, Yr, Qd, Jo, Jp, Y7, Ys, Yt, Yu, Yv, Yw, Yx, Jq, Jr, Qr, Js, Yy, Qe, Qs, List.set_cons_zero, List.set_cons_succ, List.map_cons, List.map_nil, List.replicate, List.cons_append, List.nil_append, List.length_cons, List.length_nil, Bool.false_eq_true, eq_self, if_true, if_false, Nat.zero_add, Jt, Yz, Ju, Jv, Jw, Y0, Jx, true_and]
    refine (ht t1 _ 5 hwa (by omega) (by omega) (by omega) (hfr ps)).mono ?_
    rintro d s ⟨n5, t2, rfl, hn0, hn1, rfl, hwb, hcb⟩
    obtain ⟨nq, enq, hnq, hnqg⟩ := pick2g (a := n5) (b := 12) hg0 hg1
    have hnq12 : 0 ≤ nq ∧ nq ≤ 12 := by omega
    simp only [Y1, Qf, Qt, Qu, Qa, Qg, Qv, Qw, Qx, Qy, Qh, Qz, Jy, Qi, Qb, Qj, Qk, Q0, Jz, Q1, Q2, J0, Q3, Q4, J1, Ql, Qm, Qn, Q5, Qo, Q6, Qp, Q7, Q8, J2, Q9, Ja, J3, J4, J5, Jb, J6, J7, Jc, J8, J9, Jd, Je, Ya, Jf, Yb, Jg, Jh, Y8, Yc, Ji, Yd, Ye, Yf, Yg, Yh, Y2, Jj, Qq, Jk, Yi, Jl, Jm, Yj, Y3, Yk, Yl, Y4, Ym, Y5, Yn, Qc, Yo, Jn, Yp, Yq, Y6, Yr, Qd, Jo, Jp, Y7, Ys, Yt, Yu, Yv, Yw, Yx, Jq, Jr, Qr, Js, Yy, Qe, Qs, List.set_cons_zero, List.set_cons_succ, List.map_cons, List.map_nil, List.replicate, List.cons_append, List.nil_append, List.length_cons, List.length_nil, Bool.false_eq_true, eq_self, if_true, if_false, Nat.zero_add, Jt, Yz, Ju, Jv, Jw, Y0, Jx, true_and, enq]
    refine ⟨rfl, inRng_small (by omega) (by omega), ?_⟩
    simp only [Y1, Qf, Qt, Qu, Qa, Qg, Qv, Qw, Qx, Qy, Qh, Qz, Jy, Qi, Qb, Qj, Qk, Q0, Jz, Q1, Q2, J0, Q3, Q4, J1, Ql, Qm, Qn, Q5, Qo, Q6, Qp, Q7, Q8, J2, Q9, Ja, J3, J4, J5, Jb, J6, J7, Jc, J8, J9, Jd, Je, Ya, Jf, Yb, Jg, Jh, Y8, Yc, Ji, Yd, Ye, Yf, Yg, Yh, Y2, Jj, Qq, Jk, Yi, Jl, Jm, Yj, Y3, Yk, Yl, Y4, Ym, Y5, Yn, Qc, Yo, Jn, Yp, Yq, Y6, Yr, Qd, Jo, Jp, Y7, Ys, Yt, Yu, Yv, Yw, Yx, Jq, Jr, Qr, Js, Yy, Qe, Qs, List.set_cons_zero, List.set_cons_succ, List.map_cons, List.map_nil, List.replicate, List.cons_append, List.nil_append, List.length_cons, List.length_nil, Bool.false_eq_true, eq_self, if_true, if_false, Nat.zero_add, Jt, Yz, Ju, Jv, Jw, Y0, Jx, true_and, rngD_len]
    refine ⟨decide_eq_true (by omega), ?_⟩
    refine ok_lcI (fun i acc s => ∃ (t' : Feed) (ds : List (List Str)), acc = ds.map encS ∧ s = feedOb t' :: (r ++ [.lst (ps.map encP)]) ∧ ds.length = i ∧ (∀ d ∈ ds, d ≠ [] ∧ d.length ≤ 6 ∧ d.Nodup ∧ ∀ x ∈ d, x ∈ lots) ∧ t'.Wf ∧ f.calls ≤ t'.calls ∧ t'.calls ≤ f.calls + 140 + 8 * i)
      (fun _ _ _ _ => rfl) (fun i d acc s hd h => ?_) (fun acc s h => ?_) ⟨t2, [], rfl, rfl, rfl, fun p hp => absurd hp List.not_mem_nil, hwb, by omega, by omega⟩
    · obtain ⟨t3, ds, rfl, rfl, rfl, hds, hwc, hgc, hlc⟩ := h
      obtain ⟨hi, rfl⟩ := rngD_get hd
      simp only [Y1, Qf, Qt, Qu, Qa, Qg, Qv, Qw, Qx, Qy, Qh, Qz, Jy, Qi, Qb, Qj, Qk, Q0, Jz, Q1, Q2, J0, Q3, Q4, J1, Ql, Qm, Qn, Q5, Qo, Q6, Qp, Q7, Q8, J2, Q9, Ja, J3, J4, J5, Jb, J6, J7, Jc, J8, J9, Jd, Je, Ya, Jf, Yb, Jg, Jh, Y8, Yc, Ji, Yd, Ye, Yf, Yg, Yh, Y2, Jj, Qq, Jk, Yi, Jl, Jm, Yj, Y3, Yk, Yl, Y4, Ym, Y5, Yn, Qc, Yo, Jn, Yp, Yq, Y6, Yr, Qd, Jo, Jp, Y7, Ys, Yt, Yu, Yv, Yw, Yx, Jq, Jr, Qr, Js, Yy, Qe, Qs, List.set_cons_zero, List.set_cons_succ, List.map_cons, List.map_nil, List.replicate, List.cons_append, List.nil_append, List.length_cons, List.length_nil, Bool.false_eq_true, eq_self, if_true, if_false, Nat.zero_add, Jt, Yz, Ju, Jv, Jw, Y0, Jx, true_and, wipeZ, len_encS]
      refine (ht t3 _ lots.length hwc (by omega) (by omega) (by omega) (hfr ps)).mono ?_
      rintro d s ⟨y, t4, rfl, hy0, hy1, rfl, hwd, hcd⟩
      simp only [Y1, Qf, Qt, Qu, Qa, Qg, Qv, Qw, Qx, Qy, Qh, Qz, Jy, Qi, Qb, Qj, Qk, Q0, Jz, Q1, Q2, J0, Q3, Q4, J1, Ql, Qm, Qn, Q5, Qo, Q6, Qp, Q7, Q8, J2, Q9, Ja, J3, J4, J5, Jb, J6, J7, Jc, J8, J9, Jd, Je, Ya, Jf, Yb, Jg, Jh, Y8, Yc, Ji, Yd, Ye, Yf, Yg, Yh, Y2, Jj, Qq, Jk, Yi, Jl, Jm, Yj, Y3, Yk, Yl, Y4, Ym, Y5, Yn, Qc, Yo, Jn, Yp, Yq, Y6, Yr, Qd, Jo, Jp, Y7, Ys, Yt, Yu, Yv, Yw, Yx, Jq, Jr, Qr, Js, Yy, Qe, Qs, List.set_cons_zero, List.set_cons_succ, List.map_cons, List.map_nil, List.replicate, List.cons_append, List.nil_append, List.length_cons, List.length_nil, Bool.false_eq_true, eq_self, if_true, if_false, Nat.zero_add, Jt, Yz, Ju, Jv, Jw, Y0, Jx, true_and, add_int]
      refine (hs t4 _ (encS lots) lots (1 + y) hwd (by omega) (fun s => rfl) hl6 (by omega) (by omega) (hfr ps)).mono ?_
      rintro d s ⟨ws, t5, rfl, ho1, ho3, ho2, rfl, hwe, hge, hle⟩
      refine ⟨t5, ds ++ [ws], by simp, rfl, by simp, fun q hq => ?_, hwe, by omega, by push_cast; omega⟩
      rcases List.mem_append.mp hq with z | z
      · exact hds q z
      · rw [List.mem_singleton.mp z]
        refine ⟨fun e => ?_, by split at ho2 <;> omega, ho3 hnd, ho1⟩
        rw [e] at ho2
        simp only [List.length_nil] at ho2
        split at ho2 <;> omega
    · obtain ⟨t3, ds, rfl, rfl, hdl, hds, hwc, hgc, hlc⟩ := h
      rw [rngD_len] at hdl hlc
      simp only [Y1, Qf, Qt, Qu, Qa, Qg, Qv, Qw, Qx, Qy, Qh, Qz, Jy, Qi, Qb, Qj, Qk, Q0, Jz, Q1, Q2, J0, Q3, Q4, J1, Ql, Qm, Qn, Q5, Qo, Q6, Qp, Q7, Q8, J2, Q9, Ja, J3, J4, J5, Jb, J6, J7, Jc, J8, J9, Jd, Je, Ya, Jf, Yb, Jg, Jh, Y8, Yc, Ji, Yd, Ye, Yf, Yg, Yh, Y2, Jj, Qq, Jk, Yi, Jl, Jm, Yj, Y3, Yk, Yl, Y4, Ym, Y5, Yn, Qc, Yo, Jn, Yp, Yq, Y6, Yr, Qd, Jo, Jp, Y7, Ys, Yt, Yu, Yv, Yw, Yx, Jq, Jr, Qr, Js, Yy, Qe, Qs, List.set_cons_zero, List.set_cons_succ, List.map_cons, List.map_nil, List.replicate, List.cons_append, List.nil_append, List.length_cons, List.length_nil, Bool.false_eq_true, eq_self, if_true, if_false, Nat.zero_add, Jt, Yz, Ju, Jv, Jw, Y0, Jx, true_and, tuple_loc st_get1, tuple_ls]
      refine ⟨rfl, ?_⟩
      refine fin_feed hf (below_encC 0 ⟨lots, ps, ds⟩) ⟨⟨lots, ps, ds⟩, t3, rfl, ⟨hl2, hl6, hnd, hpool, hps, by show ps.length ≤ 10; omega, hds, by show ds.length ≤ 12; omega⟩, rfl, hwc, by omega, by omega, fun e => ?_⟩
      have e1 := hnpg e
      have e2 := hnqg e
      exact ⟨by show ps.length ≤ 5; omega, by show ds.length ≤ 4; omega⟩
end Z

namespace Z
open PySem PySem.Spec L2

/-! ### ends of the second family -/
/-- an end of a count: each pile within its box, each doubt under a name of its own -/
structure EndB (c : Cnt) (laid : List (Str × Int)) (ds : List Str) : Prop where
  nlaid : laid.length = c.piles.length
  hlaid : ∀ (i : Nat) (p : Pil) (x : Str × Int), c.piles[i]? = some p → laid[i]? = some x → (x.1 = p.name ∨ x.1 ∈ p.others) ∧ p.least ≤ x.2 ∧ x.2 ≤ p.many + p.slip
  nds : ds.length = c.doubts.length
  hds : ∀ (i : Nat) (d : List Str) (x : Str), c.doubts[i]? = some d → ds[i]? = some x → x ∈ d
theorem EndB.lots {c : Cnt} (hc : CntB c) {laid : List (Str × Int)} {ds : List Str} (he : EndB c laid ds) : (∀ x ∈ laid, x.1 ∈ c.lots) ∧ ∀ x ∈ ds, x ∈ c.lots := by
  refine ⟨fun x hx => ?_, fun x hx => ?_⟩
  · obtain ⟨i, hi⟩ := List.mem_iff_getElem?.mp hx
    have hl := (List.getElem?_eq_some_iff.mp hi).1
    rw [he.nlaid] at hl
    have hp := hc.piles _ (List.getElem_mem hl)
    rcases (he.hlaid i _ x (List.getElem?_eq_getElem hl) hi).1 with h | h
    · rw [h]; exact hp.name
    · exact (hp.oth _ h).1
  · obtain ⟨i, hi⟩ := List.mem_iff_getElem?.mp hx
    have hl := (List.getElem?_eq_some_iff.mp hi).1
    rw [he.nds] at hl
    exact (hc.doubts _ (List.getElem_mem hl)).2.2.2 x (he.hds i _ x (List.getElem?_eq_getElem hl) hi)
def bEndB2 (φd : Phi) : Fn Ct :=
  (fRet (fTup (fCons (fCall gTuple (fCons (fVar 2) (fNil))) (fCons (fCall gTuple (fCons (fVal (fLc (fSrc (fBin gIx (fVar 1) (fC (.int 2)))) [10] (gNm 10) (fYes) (fBin gIx (fVar 10) (fCall φd (fCons (fVar 0) (fCons (fCall gLen (fCons (fVar 10) (fNil))) (fNil))))))) (fNil))) (fNil)))))
def bEndB (φd : Phi) : Fn Ct :=
  fSeq (fSet 2 (fNew (fLst (fNil))))
  (fSeq (fFor (fSrc (fBin gIx (fVar 1) (fC (.int 1)))) (gTp 4 (gsCons (gNm 3) (gsCons (gNm 4) (gsCons (gNm 5) (gsCons (gNm 6) (gsNil)))))) (fSeq (fSet 7 (fBin gIx (fBin gAdd (fTup (fCons (fVar 3) (fNil))) (fVar 6)) (fCall φd (fCons (fVar 0) (fCons (fBin gAdd (fC (.int 1)) (fCall gLen (fCons (fVar 6) (fNil)))) (fNil))))))
  (fSeq (fPar2 8 9 (fCons (fCall (gTwo fun i j => if j > i then j else i) (fCons (fC (.int 0)) (fCons (fBin gSub (fVar 4) (fVar 5)) (fNil)))) (fCons (fBin gAdd (fVar 4) (fVar 5)) (fNil))))
  (fDrop (fMt isL gAppend (fVar 2) (fCons (fTup (fCons (fVar 7) (fCons (fBin gIx (fVal (fLst (fCons (fVar 8) (fCons (fVar 9) (fCons (fVar 4) (fCons (fBin gAdd (fVar 8) (fCall φd (fCons (fVar 0) (fCons (fBin gAdd (fBin gSub (fVar 9) (fVar 8)) (fC (.int 1))) (fNil))))) (fNil))))))) (fCall φd (fCons (fVar 0) (fCons (fC (.int 4)) (fNil))))) (fNil)))) (fNil)))))))
  (bEndB2 φd))
def EndsB (φ : Phi) : Prop := ∀ (f : Feed) (r : Sto) (c : Cnt), CntB c → f.Wf → f.calls + 400 ≤ 1000000 → Fl r → OkE nX (φ [.loc 0, encC c] (feedOb f :: r)) fun d s' => ∃ (laid : List (Str × Int)) (ds : List Str) (f' : Feed), d = encE laid ds ∧ EndB c laid ds ∧
  s' = feedOb f' :: r ∧ f'.Wf ∧ f.calls ≤ f'.calls ∧ f'.calls ≤ f.calls + 60
theorem add_tup {a b : List Dv} {s : Sto} (h : a.length + b.length ≤ 16777216) : gAdd (.tup a) (.tup b) s = .ok (.tup (a ++ b)) s := by
  show Rs.iff (decide (a.length + b.length ≤ 16777216)) _ = _
  rw [decide_eq_true h]; rfl
end Z

namespace Z
open PySem PySem.Spec L2

/-! ### tallies as dicts -/
/-- what lies under names: piles, and one for each doubt -/
def allL (laid : List (Str × Int)) (ds : List Str) : List (Str × Int) := laid ++ ds.map fun d => (d, 1)
def bTalB : Fn Ct :=
  fSeq (fSet 3 (fCall gDictP (fCons (fVal (fLc (fSrc (fVar 0)) [2] (gNm 2) (fYes) (fTup (fCons (fVar 2) (fCons (fC (.int 0)) (fNil)))))) (fNil))))
  (fSeq (fFor (fSrc (fBin gAdd (fBin gIx (fVar 1) (fC (.int 0))) (fCall gTuple (fCons (fVal (fLc (fSrc (fBin gIx (fVar 1) (fC (.int 1)))) [2] (gNm 2) (fYes) (fTup (fCons (fVar 2) (fCons (fC (.int 1)) (fNil)))))) (fNil))))) (gTp 2 (gsCons (gNm 2) (gsCons (gNm 4) (gsNil)))) (fPut (fVar 3) (fVar 2) (fBin gAdd (fBin gIx (fVar 3) (fVar 2)) (fVar 4))))
  (fRet (fVar 3)))
def TalB (φ : Phi) : Prop := ∀ (s : Sto) (lots : List Str) (laid : List (Str × Int)) (ds : List Str), lots.Nodup → lots.length ≤ 1000 → laid.length ≤ 1000 → ds.length ≤ 1000 → (∀ x ∈ laid, x.1 ∈ lots) → (∀ d ∈ ds, d ∈ lots) → Fl s →
  OkE nX (φ [encS lots, encE laid ds] s) fun d s' => d = .loc s.length ∧ s' = s ++ [.dk (nmKv lots (sumOf (allL laid ds)))]
/-! ### alike -/
def bAlike (ψ : Phi) : Fn Ct :=
  fSeq (fIfS (fTest (fIsiT ["tuple", "list"] (fVar 1))) (fSeq (fIfS (fOrT (fTest (fBin gNe (fIsi "tuple" (fVar 0)) (fIsi "tuple" (fVar 1)))) (fTest (fBin gNe (fIsi "list" (fVar 0)) (fIsi "list" (fVar 1))))) (fRet (fC (.bl false))) (fNop))
  (fRet (fAnd (fBin gEq (fCall gLen (fCons (fVar 0) (fNil))) (fCall gLen (fCons (fVar 1) (fNil)))) (fCall gAll (fCons (fVal (fLc (fZip (fCons (fVar 0) (fCons (fVar 1) (fNil)))) [2, 3] (gTp 2 (gsCons (gNm 2) (gsCons (gNm 3) (gsNil)))) (fYes) (fCall ψ (fCons (fVar 2) (fCons (fVar 3) (fNil)))))) (fNil)))))) (fNop))
  (fSeq (fIfS (fTest (fBin gIs (fVar 1) (fC .non))) (fRet (fBin gIs (fVar 0) (fC .non))) (fNop))
  (fSeq (fIfS (fOrT (fTest (fIsi "bool" (fVar 1))) (fTest (fIsi "str" (fVar 1)))) (fRet (fAnd (fBin gEq (fIsi "bool" (fVar 0)) (fIsi "bool" (fVar 1))) (fAnd (fIsiT ["bool", "str"] (fVar 0)) (fBin gEq (fVar 0) (fVar 1))))) (fNop))
  (fRet (fAnd (fIsi "int" (fVar 0)) (fAnd (fNot (fIsi "bool" (fVar 0))) (fBin gEq (fVar 0) (fVar 1)))))))
/-- a thing is like itself -/
def Alk (ψ : Phi) (d : Dv) : Prop := ∀ (s : Sto) (T : Dv → Sto → Prop), T (.bl true) s → OkE nX (ψ [d, d] s) T
section
variable {x : Str} {i : Int} {b : Bool} {s : Sto} {ds : List Dv}
theorem ia_str : isiAny (tyD (.str x) s) ["tuple", "list"] = false := by show isiAny "str" _ = false; decide
theorem ia_tup : isiAny (tyD (.tup ds) s) ["tuple", "list"] = true := by show isiAny "tuple" _ = true; decide
theorem ib_str : isiAny (tyD (.str x) s) ["bool", "str"] = true := by show isiAny "str" _ = true; decide
theorem i1_str : isiB (tyD (.str x) s) "bool" = false := by show isiB "str" _ = false; decide
theorem i2_str : isiB (tyD (.str x) s) "str" = true := by show isiB "str" _ = true; decide
theorem i1_tup : isiB (tyD (.tup ds) s) "tuple" = true := by show isiB "tuple" _ = true; decide
theorem i2_tup : isiB (tyD (.tup ds) s) "list" = false := by show isiB "tuple" _ = false; decide
theorem is_strn : gIs (.str x) .non s = .ok (.bl false) s := rfl
theorem eq_bl {b c : Bool} : gEq (.bl b) (.bl c) s = .ok (.bl (b == c)) s := rfl
theorem ne_bl {b c : Bool} : gNe (.bl b) (.bl c) s = .ok (.bl (!(b == c))) s := rfl
end
theorem alk_str {ψ : Phi} {x : Str} : Alk (fDef 2 4 (bAlike ψ)) (.str x) := by
  intro s T h
  rw [ok_def]
  refine ⟨rfl, ?_⟩
  unfold bAlike
  simp only [Y1, Qf, Qt, Qu, Qa, Qg, Qv, Qw, Qx, Qy, Qh, Qz, Jy, Qi, Qb, Qj, Qk, Q0, Jz, Q1, Q2, J0, Q3, Q4, J1, Ql, Qm, Qn, Q5, Qo, Q6, Qp, Q7, Q8, J2, Q9, Ja, J3, J4, J5, Jb, J6, J7, Jc, J8, J9, Jd, Je, Ya, Jf, Yb, Jg, Jh, Y8, Yc, Ji, Yd, Ye, Yf, Yg, Yh, Y2, Jj, Qq, Jk, Yi, Jl, Jm, Yj, Y3, Yk, Yl, Y4, Ym, Y5, Yn, Qc, Yo, Jn, Yp, Yq, Y6, Yr, Qd, Jo, Jp, Y7, Ys, Yt, Yu, Yv, Yw, Yx, Jq, Jr, Qr, Js, Yy, Qe, Qs, List.set_cons_zero, List.set_cons_succ, List.map_cons, List.map_nil, List.replicate, List.cons_append, List.nil_append, List.length_cons, List.length_nil, Bool.false_eq_true, eq_self, if_true, if_false, Nat.zero_add, Jt, Yz, Ju, Jv, Jw, Y0, Jx, true_and, ok_isiT, kIsiT_ap, ia_str, is_strn, ok_isi, kIsi_ap, i1_str, i2_str, eq_bl, ib_str, eq_str, BEq.rfl]
  exact fin_any (fun n => nofun) h
theorem zip_self {ds : List Dv} {d : Dv} (h : d ∈ zipD ds ds) : ∃ e ∈ ds, d = .tup [e, e] := by
  obtain ⟨i, hi⟩ := List.mem_iff_getElem?.mp h
  obtain ⟨a, b, h1, h2, rfl⟩ := zipD_get hi
  rw [h1] at h2; cases h2
  exact ⟨a, List.mem_of_getElem? h1, rfl⟩
theorem alk_tup {ψ : Phi} {ds : List Dv} (hl : ds.length < 16777216) (h : ∀ d ∈ ds, Alk ψ d) : Alk (fDef 2 4 (bAlike ψ)) (.tup ds) := by
  intro s T hT
  rw [ok_def]
  refine ⟨rfl, ?_⟩
  unfold bAlike
  simp only [Y1, Qf, Qt, Qu, Qa, Qg, Qv, Qw, Qx, Qy, Qh, Qz, Jy, Qi, Qb, Qj, Qk, Q0, Jz, Q1, Q2, J0, Q3, Q4, J1, Ql, Qm, Qn, Q5, Qo, Q6, Qp, Q7, Q8, J2, Q9, Ja, J3, J4, J5, Jb, J6, J7, Jc, J8, J9, Jd, Je, Ya, Jf, Yb, Jg, Jh, Y8, Yc, Ji, Yd, Ye, Yf, Yg, Yh, Y2, Jj, Qq, Jk, Yi, Jl, Jm, Yj, Y3, Yk, Yl, Y4, Ym, Y5, Yn, Qc, Yo, Jn, Yp, Yq, Y6, Yr, Qd, Jo, Jp, Y7, Ys, Yt, Yu, Yv, Yw, Yx, Jq, Jr, Qr, Js, Yy, Qe, Qs, List.set_cons_zero, List.set_cons_succ, List.map_cons, List.map_nil, List.replicate, List.cons_append, List.nil_append, List.length_cons, List.length_nil, Bool.false_eq_true, eq_self, if_true, if_false, Nat.zero_add, Jt, Yz, Ju, Jv, Jw, Y0, Jx, true_and, ok_isiT, kIsiT_ap, ia_tup, ok_isi, kIsi_ap, i1_tup, i2_tup, ne_bl, BEq.rfl, Bool.not_true, len_tup, eq_int, ok_zip]
  refine ⟨_, _, (ds, noChk), (ds, noChk), rfl, rfl, rfl, rfl, ?_⟩
  have hz : (zipD ds ds).length = ds.length := by unfold zipD; rw [List.length_zipWith, Nat.min_self]
  simp only [Y1, Qf, Qt, Qu, Qa, Qg, Qv, Qw, Qx, Qy, Qh, Qz, Jy, Qi, Qb, Qj, Qk, Q0, Jz, Q1, Q2, J0, Q3, Q4, J1, Ql, Qm, Qn, Q5, Qo, Q6, Qp, Q7, Q8, J2, Q9, Ja, J3, J4, J5, Jb, J6, J7, Jc, J8, J9, Jd, Je, Ya, Jf, Yb, Jg, Jh, Y8, Yc, Ji, Yd, Ye, Yf, Yg, Yh, Y2, Jj, Qq, Jk, Yi, Jl, Jm, Yj, Y3, Yk, Yl, Y4, Ym, Y5, Yn, Qc, Yo, Jn, Yp, Yq, Y6, Yr, Qd, Jo, Jp, Y7, Ys, Yt, Yu, Yv, Yw, Yx, Jq, Jr, Qr, Js, Yy, Qe, Qs, List.set_cons_zero, List.set_cons_succ, List.map_cons, List.map_nil, List.replicate, List.cons_append, List.nil_append, List.length_cons, List.length_nil, Bool.false_eq_true, eq_self, if_true, if_false, Nat.zero_add, Jt, Yz, Ju, Jv, Jw, Y0, Jx, true_and]
  refine ⟨decide_eq_true (by show (zipD ds ds).length < _; rw [hz]; exact hl), ?_⟩
  show OkE nX (lcZ noChk _ _ _ _ (zipD ds ds) _ _) _
  refine ok_map (fun _ => true) (fun _ => .bl true) (fun d hd => ?_) ?_
  · obtain ⟨e, he, rfl⟩ := zip_self hd
    simp only [Y1, Qf, Qt, Qu, Qa, Qg, Qv, Qw, Qx, Qy, Qh, Qz, Jy, Qi, Qb, Qj, Qk, Q0, Jz, Q1, Q2, J0, Q3, Q4, J1, Ql, Qm, Qn, Q5, Qo, Q6, Qp, Q7, Q8, J2, Q9, Ja, J3, J4, J5, Jb, J6, J7, Jc, J8, J9, Jd, Je, Ya, Jf, Yb, Jg, Jh, Y8, Yc, Ji, Yd, Ye, Yf, Yg, Yh, Y2, Jj, Qq, Jk, Yi, Jl, Jm, Yj, Y3, Yk, Yl, Y4, Ym, Y5, Yn, Qc, Yo, Jn, Yp, Yq, Y6, Yr, Qd, Jo, Jp, Y7, Ys, Yt, Yu, Yv, Yw, Yx, Jq, Jr, Qr, Js, Yy, Qe, Qs, List.set_cons_zero, List.set_cons_succ, List.map_cons, List.map_nil, List.replicate, List.cons_append, List.nil_append, List.length_cons, List.length_nil, Bool.false_eq_true, eq_self, if_true, if_false, Nat.zero_add, Jt, Yz, Ju, Jv, Jw, Y0, Jx, true_and, wipeZ]
    refine ⟨rfl, ?_⟩
    first | exact h e he s _ ⟨rfl, rfl⟩ | exact ⟨rfl, h e he s _ ⟨rfl, rfl⟩⟩
  · rw [filter_yes, show (zipD ds ds).map (fun _ => Dv.bl true) = ((zipD ds ds).map fun _ => true).map .bl by rw [List.map_map]; rfl]
    simp only [Y1, Qf, Qt, Qu, Qa, Qg, Qv, Qw, Qx, Qy, Qh, Qz, Jy, Qi, Qb, Qj, Qk, Q0, Jz, Q1, Q2, J0, Q3, Q4, J1, Ql, Qm, Qn, Q5, Qo, Q6, Qp, Q7, Q8, J2, Q9, Ja, J3, J4, J5, Jb, J6, J7, Jc, J8, J9, Jd, Je, Ya, Jf, Yb, Jg, Jh, Y8, Yc, Ji, Yd, Ye, Yf, Yg, Yh, Y2, Jj, Qq, Jk, Yi, Jl, Jm, Yj, Y3, Yk, Yl, Y4, Ym, Y5, Yn, Qc, Yo, Jn, Yp, Yq, Y6, Yr, Qd, Jo, Jp, Y7, Ys, Yt, Yu, Yv, Yw, Yx, Jq, Jr, Qr, Js, Yy, Qe, Qs, List.set_cons_zero, List.set_cons_succ, List.map_cons, List.map_nil, List.replicate, List.cons_append, List.nil_append, List.length_cons, List.length_nil, Bool.false_eq_true, eq_self, if_true, if_false, Nat.zero_add, Jt, Yz, Ju, Jv, Jw, Y0, Jx, true_and, all_ls]
    refine fin_any (fun n => nofun) ?_
    rw [List.all_map]
    rw [show (List.all (zipD ds ds) (id ∘ fun _ => true)) = true from List.all_eq_true.mpr fun _ _ => rfl]
    exact hT
end Z

namespace Z
open PySem PySem.Spec L2

/-! ### names asked for -/
def bNeed : Fn Ct :=
  fFor (fSure (fSrc (fVar 1))) (fun d => fSure ((gNm 2) d)) (fIfS (fSure (fTest (fBin gNotIn (fVar 2) (fBin gIx (fVar 0) (fC (.int 0)))))) (fRaise 5 (fSure (fCons (fVar 2) (fNil)))) (fNop))
def NeedS (φ : Phi) : Prop := ∀ (c : Cnt) (xs : List Str) (s : Sto) (Ex T : Dv → Sto → Prop), Fl s → ((∀ x ∈ xs, x ∈ c.lots) → T .non s) →
  (∀ (i : Nat) (x : Str), xs[i]? = some x → x ∉ c.lots → (∀ (j : Nat) (y : Str), j < i → xs[j]? = some y → y ∈ c.lots) → Ex (.xn 0 0 5 [.str x]) s) → OkE Ex (φ [encC c, encS xs] s) T
/-! ### margins -/
def partV (n one other : Str) : Int := (if n = one then 1 else 0) - (if n = other then 1 else 0)
def bPart : Fn Ct :=
  fRet (fBin gMul (fVar 1) (fBin gSub (fCall gToInt (fCons (fBin gEq (fVar 0) (fVar 2)) (fNil))) (fCall gToInt (fCons (fBin gEq (fVar 0) (fVar 3)) (fNil)))))
def PartS (φ : Phi) : Prop := ∀ (n one other : Str) (k : Int) (s : Sto) (T : Dv → Sto → Prop), T (.int (k * partV n one other)) s → OkE nX (φ [.str n, .int k, .str one, .str other] s) T
theorem toInt_b {b : Bool} {s : Sto} : gToInt [.bl b] s = .ok (.int (if b = true then 1 else 0)) s := rfl
def marg (l : List (Str × Int)) (one other : Str) : Int := (l.map fun x => x.2 * partV x.1 one other).sum
def bMargin (φn φp : Phi) : Fn Ct :=
  fSeq (fDrop (fCall φn (fSure (fCons (fVar 0) (fCons (fTup (fCons (fVar 2) (fCons (fVar 3) (fNil)))) (fNil))))))
  (fSure (fSeq (fSet 4 (fVal (fLc (fSrc (fBin gIx (fVar 1) (fC (.int 0)))) [5, 6] (gTp 2 (gsCons (gNm 5) (gsCons (gNm 6) (gsNil)))) (fYes) (fCall φp (fCons (fVar 5) (fCons (fVar 6) (fCons (fVar 2) (fCons (fVar 3) (fNil)))))))))
  (fRet (fSumS (fVar 4) (fCall gSum (fCons (fVal (fLc (fSrc (fBin gIx (fVar 1) (fC (.int 1)))) [5] (gNm 5) (fYes) (fCall φp (fCons (fVar 5) (fCons (fC (.int 1)) (fCons (fVar 2) (fCons (fVar 3) (fNil)))))))) (fNil)))))))
def MarginS (φ : Phi) : Prop := ∀ (c : Cnt) (laid : List (Str × Int)) (ds : List Str) (one other : Str) (s : Sto) (Ex T : Dv → Sto → Prop), Fl s → laid.length ≤ 1000 → ds.length ≤ 1000 → (one ∈ c.lots → other ∈ c.lots → T (.int (marg (allL laid ds) one other)) s) →
  (one ∉ c.lots → Ex (.xn 0 0 5 [.str one]) s) → (one ∈ c.lots → other ∉ c.lots → Ex (.xn 0 0 5 [.str other]) s) → OkE Ex (φ [encC c, encE laid ds, .str one, .str other] s) T
end Z

namespace Z
open PySem PySem.Spec L2

/-! ### a pile, laid for the worst -/
def lowP (p : Pil) : Int := if p.many - p.slip > 0 then p.many - p.slip else 0
def namP (p : Pil) : List Str := p.name :: p.others
def bLeastW : Fn Ct := fRet (fCall (gTwo fun i j => if j > i then j else i) (fCons (fC (.int 0)) (fCons (fBin gSub (fBin gIx (fVar 0) (fC (.int 1))) (fBin gIx (fVar 0) (fC (.int 2)))) (fNil))))
def LeastP (φ : Phi) : Prop := ∀ (p : Pil) (s : Sto) (T : Dv → Sto → Prop), T (.int (lowP p)) s → OkE nX (φ [encP p] s) T
theorem leastP_spec : LeastP (fDef 1 1 bLeastW) := by
  intro p s T hT
  rw [ok_def]
  refine ⟨rfl, ?_⟩
  unfold bLeastW
  have e1 : ∀ s : Sto, gIx (encP p) (.int 1) s = .ok (.int p.many) s := fun s => rfl
  have e2 : ∀ s : Sto, gIx (encP p) (.int 2) s = .ok (.int p.slip) s := fun s => rfl
  have m2 : ∀ s : Sto, gTwo (fun i j => if j > i then j else i) [.int 0, .int (p.many - p.slip)] s = .ok (.int (lowP p)) s := fun s => rfl
  simp only [Y1, Qf, Qt, Qu, Qa, Qg, Qv, Qw, Qx, Qy, Qh, Qz, Jy, Qi, Qb, Qj, Qk, Q0, Jz, Q1, Q2, J0, Q3, Q4, J1, Ql, Qm, Qn, Q5, Qo, Q6, Qp, Q7, Q8, J2, Q9, Ja, J3, J4, J5, Jb, J6, J7, Jc, J8, J9, Jd, Je, Ya, Jf, Yb, Jg, Jh, Y8, Yc, Ji, Yd, Ye, Yf, Yg, Yh, Y2, Jj, Qq, Jk, Yi, Jl, Jm, Yj, Y3, Yk, Yl, Y4, Ym, Y5, Yn, Qc, Yo, Jn, Yp, Yq, Y6, Yr, Qd, Jo, Jp, Y7, Ys, Yt, Yu, Yv, Yw, Yx, Jq, Jr, Qr, Js, Yy, Qe, Qs, List.set_cons_zero, List.set_cons_succ, List.map_cons, List.map_nil, List.replicate, List.cons_append, List.nil_append, List.length_cons, List.length_nil, Bool.false_eq_true, eq_self, if_true, if_false, Nat.zero_add, Jt, Yz, Ju, Jv, Jw, Y0, Jx, true_and, e1, e2, sub_int, m2]
  exact fin_any (fun n => nofun) hT
def bNamesP : Fn Ct := fRet (fBin gAdd (fTup (fCons (fBin gIx (fVar 0) (fC (.int 0))) (fNil))) (fBin gIx (fVar 0) (fC (.int 3))))
def NamesP (φ : Phi) : Prop := ∀ (p : Pil) (s : Sto) (T : Dv → Sto → Prop), p.others.length ≤ 1000 → T (encS (namP p)) s → OkE nX (φ [encP p] s) T
theorem namesP_spec : NamesP (fDef 1 1 bNamesP) := by
  intro p s T hl hT
  rw [ok_def]
  refine ⟨rfl, ?_⟩
  unfold bNamesP
  have e0 : ∀ s : Sto, gIx (encP p) (.int 0) s = .ok (.str p.name) s := fun s => rfl
  have e3 : ∀ s : Sto, gIx (encP p) (.int 3) s = .ok (.tup (p.others.map .str)) s := fun s => rfl
  simp only [Y1, Qf, Qt, Qu, Qa, Qg, Qv, Qw, Qx, Qy, Qh, Qz, Jy, Qi, Qb, Qj, Qk, Q0, Jz, Q1, Q2, J0, Q3, Q4, J1, Ql, Qm, Qn, Q5, Qo, Q6, Qp, Q7, Q8, J2, Q9, Ja, J3, J4, J5, Jb, J6, J7, Jc, J8, J9, Jd, Je, Ya, Jf, Yb, Jg, Jh, Y8, Yc, Ji, Yd, Ye, Yf, Yg, Yh, Y2, Jj, Qq, Jk, Yi, Jl, Jm, Yj, Y3, Yk, Yl, Y4, Ym, Y5, Yn, Qc, Yo, Jn, Yp, Yq, Y6, Yr, Qd, Jo, Jp, Y7, Ys, Yt, Yu, Yv, Yw, Yx, Jq, Jr, Qr, Js, Yy, Qe, Qs, List.set_cons_zero, List.set_cons_succ, List.map_cons, List.map_nil, List.replicate, List.cons_append, List.nil_append, List.length_cons, List.length_nil, Bool.false_eq_true, eq_self, if_true, if_false, Nat.zero_add, Jt, Yz, Ju, Jv, Jw, Y0, Jx, true_and, e0, e3]
  refine ⟨by decide, ?_⟩
  rw [add_tupD (by rw [List.length_map]; show 1 + _ ≤ _; omega)]
  simp only [Y1, Qf, Qt, Qu, Qa, Qg, Qv, Qw, Qx, Qy, Qh, Qz, Jy, Qi, Qb, Qj, Qk, Q0, Jz, Q1, Q2, J0, Q3, Q4, J1, Ql, Qm, Qn, Q5, Qo, Q6, Qp, Q7, Q8, J2, Q9, Ja, J3, J4, J5, Jb, J6, J7, Jc, J8, J9, Jd, Je, Ya, Jf, Yb, Jg, Jh, Y8, Yc, Ji, Yd, Ye, Yf, Yg, Yh, Y2, Jj, Qq, Jk, Yi, Jl, Jm, Yj, Y3, Yk, Yl, Y4, Ym, Y5, Yn, Qc, Yo, Jn, Yp, Yq, Y6, Yr, Qd, Jo, Jp, Y7, Ys, Yt, Yu, Yv, Yw, Yx, Jq, Jr, Qr, Js, Yy, Qe, Qs, List.set_cons_zero, List.set_cons_succ, List.map_cons, List.map_nil, List.replicate, List.cons_append, List.nil_append, List.length_cons, List.length_nil, Bool.false_eq_true, eq_self, if_true, if_false, Nat.zero_add, Jt, Yz, Ju, Jv, Jw, Y0, Jx, true_and]
  exact fin_any (fun n => nofun) hT
def rowsP (p : Pil) : List (Str × Int) := (namP p).flatMap fun n => [(n, lowP p), (n, p.many + p.slip)]
def encT (one other : Str) (x : Str × Int) : Dv := .tup [.int (x.2 * partV x.1 one other), .str x.1, .int x.2]
def bLayI (φp : Phi) : Fn Ct := (fDrop (fMt isL gAppend (fVar 3) (fCons (fTup (fCons (fCall φp (fCons (fVar 4) (fCons (fVar 5) (fCons (fVar 1) (fCons (fVar 2) (fNil)))))) (fCons (fVar 4) (fCons (fVar 5) (fNil))))) (fNil))))
def bLayO (φl : Phi) (bi : Fn Ct) : Fn Ct := (fFor (fSrc (fTup (fCons (fCall φl (fCons (fVar 0) (fNil))) (fCons (fBin gAdd (fBin gIx (fVar 0) (fC (.int 1))) (fBin gIx (fVar 0) (fC (.int 2)))) (fNil))))) (gNm 5) bi)
def bLay (φn : Phi) (bo : Fn Ct) : Fn Ct :=
  fSeq (fSet 3 (fNew (fLst (fNil))))
  (fSeq (fFor (fSrc (fCall φn (fCons (fVar 0) (fNil)))) (gNm 4) bo)
  (fRet (fSl (fCall gMinD (fCons (fVar 3) (fNil))) (fPart (fC (.int 1))) (fNoPart))))
structure PilW (p : Pil) : Prop where
  words : ∀ n ∈ namP p, PyData.strOk n = true ∧ n.cps.size ≤ 8
  few : p.others.length ≤ 100
  many0 : 0 ≤ p.many
  many1 : p.many ≤ 100000000
  slip0 : 0 ≤ p.slip
  slip1 : p.slip ≤ 100000000
def LayS (φ : Phi) : Prop := ∀ (p : Pil) (one other : Str) (s : Sto) (T : Dv → Sto → Prop), PilW p → Fl s → (∀ x ∈ rowsP p, (∀ y ∈ rowsP p, x.2 * partV x.1 one other ≤ y.2 * partV y.1 one other) → T (.tup [.str x.1, .int x.2]) s) → OkE nX (φ [encP p, .str one, .str other] s) T
end Z

namespace Z
open PySem PySem.Spec L2

/-! ### the worst end -/
def encX (x : Str × Int) : Dv := .tup [.str x.1, .int x.2]
structure CntW (c : Cnt) : Prop where
  piles : ∀ p ∈ c.piles, PilW p
  npiles : c.piles.length ≤ 1000
  doubts : ∀ d ∈ c.doubts, d ≠ []
  ndoubts : c.doubts.length ≤ 1000
def worstP (one other : Str) (p : Pil) (x : Str × Int) : Prop := x ∈ rowsP p ∧ ∀ y ∈ rowsP p, x.2 * partV x.1 one other ≤ y.2 * partV y.1 one other
def worstD (one other : Str) (d : List Str) (x : Str) : Prop := x ∈ d ∧ ∀ y ∈ d, partV x one other ≤ partV y one other
noncomputable def bWend (φl φp : Phi) : Fn Ct :=
  fSeq (fSet 4 (fVal (fLc (fSrc (fBin gIx (fVar 0) (fC (.int 1)))) [6] (gNm 6) (fYes) (fIf (fTest (fVar 3)) (fTup (fCons (fBin gIx (fVar 6) (fC (.int 0))) (fCons (fBin gIx (fVar 6) (fC (.int 1))) (fNil)))) (fCall φl (fCons (fVar 6) (fCons (fVar 1) (fCons (fVar 2) (fNil)))))))))
  (fSeq (fSet 5 (fVal (fLc (fSrc (fBin gIx (fVar 0) (fC (.int 2)))) [7] (gNm 7) (fYes) (fMinK 8 (fCall φp (fCons (fVar 8) (fCons (fC (.int 1)) (fCons (fVar 1) (fCons (fVar 2) (fNil)))))) (fCons (fVar 7) (fNil))))))
  (fRet (fTup (fCons (fCall gTuple (fCons (fVar 4) (fNil))) (fCons (fCall gTuple (fCons (fVar 5) (fNil))) (fNil))))))
def WendS (φ : Phi) : Prop := ∀ (c : Cnt) (one other : Str) (s : Sto) (T : Dv → Sto → Prop), CntW c → Fl s → (∀ (laid : List (Str × Int)) (ds : List Str), laid.length = c.piles.length → ds.length = c.doubts.length → (∀ (i : Nat) (p : Pil) (x : Str × Int), c.piles[i]? = some p → laid[i]? = some x → worstP one other p x) →
  (∀ (i : Nat) (d : List Str) (x : Str), c.doubts[i]? = some d → ds[i]? = some x → worstD one other d x) → T (.tup [.tup (laid.map encX), encS ds]) s) → OkE nX (φ [encC c, .str one, .str other, .bl false] s) T
end Z

namespace Z
open PySem PySem.Spec L2

/-! ### places in the lots -/
def idxO (xs : List Str) (z : Str) : Nat := (xs.findIdx? (· == z)).getD 0
theorem index_tupO {xs : List Str} {z : Str} {s : Sto} (h : z ∈ xs) : gIndexT (encS xs) [.str z] s = .ok (.int (idxO xs z : Nat)) s ∧ xs[idxO xs z]? = some z := by
  cases e : xs.findIdx? (· == z) with
  | none =>
    have := List.findIdx?_eq_none_iff.mp e z h
    simp at this
  | some k =>
    obtain ⟨h1, h2, _⟩ := List.findIdx?_eq_some_iff_getElem.mp e
    have ek : idxO xs z = k := by rw [idxO, e]; rfl
    rw [ek]
    refine ⟨?_, by rw [List.getElem?_eq_getElem h1, beq_iff_eq.mp h2]⟩
    show (match strsOf (xs.map .str) with | some zs => (match zs.findIdx? (· == z) with | some j => Rs.ok (Dv.int (j : Nat)) s | none => .bad) | none => .bad) = _
    rw [strsOf_map]
    show (match xs.findIdx? (· == z) with | some j => Rs.ok (Dv.int (j : Nat)) s | none => .bad) = _
    rw [e]
theorem ok_indexO {fo : Fn Dv} {fs : Fn (List Dv)} {env : En} {s : Sto} {T : Dv → Sto → Prop} {xs : List Str} {z : Str} (ho : fo env s = .ok (encS xs) s) (hs : fs env s = .ok [.str z] s) (hz : z ∈ xs) (h : T (.int (idxO xs z : Nat)) s) : OkE nX (fIndex fo fs env s) T := by
  unfold fIndex
  rw [ho]
  show OkE nX ((fs env s).bind fun xs' s2 => gIndexT (encS xs) xs' s2) T
  rw [hs]
  show OkE nX (gIndexT (encS xs) [.str z] s) T
  rw [(index_tupO hz).1]
  exact h
def kCallO (φ : Phi) (ds : List Dv) (T : Dv → Sto → Prop) : List Dv → Sto → Prop := fun xs s => OkE nX (φ (xs ++ ds) s) T
/-! ### tuples of words, alike -/
/-! ### least margins -/
def ptP (one other : Str) (p : Pil) : Int := if one = other then 0 else if other ∈ namP p then -(p.many + p.slip) else if namP p = [one] then lowP p else 0
def ptD (one other : Str) (d : List Str) : Int := if one = other then 0 else if other ∈ d then -1 else if d = [one] then 1 else 0
def leastB (c : Cnt) (one other : Str) : Int := (c.piles.map (ptP one other)).sum + (c.doubts.map (ptD one other)).sum
theorem PilB.low {lots : List Str} {p : Pil} (h : PilB lots p) : 0 ≤ lowP p ∧ lowP p ≤ p.many := by
  have := h.many0; have := h.slip0
  unfold lowP
  constructor <;> split <;> omega
theorem CntB.w {c : Cnt} (h : CntB c) : CntW c where
  piles p hp := {
    words := fun n hn => by
      have hpb := h.piles p hp
      have : n ∈ c.lots := by
        rcases List.mem_cons.mp hn with e | e
        · rw [e]; exact hpb.name
        · exact (hpb.oth n e).1
      have e : ∀ x ∈ pool6, PyData.strOk x = true ∧ x.cps.size ≤ 8 := by decide +kernel
      exact e n (h.pool n this)
    few := by have := (h.piles p hp).noth; omega
    many0 := (h.piles p hp).many0
    many1 := by have := (h.piles p hp).many1; omega
    slip0 := (h.piles p hp).slip0
    slip1 := by have := (h.piles p hp).slip1; omega }
  npiles := by have := h.npiles; omega
  doubts d hd := (h.doubts d hd).1
  ndoubts := by have := h.ndoubts; omega

/-! ### who is surely ahead -/
def sureB (c : Cnt) (one other : Str) : Bool := if leastB c one other = 0 then decide (idxO c.lots one < idxO c.lots other) else decide (0 < leastB c one other)
theorem sum_anti {α : Type} {f g : α → Int} : ∀ {xs : List α}, (∀ x ∈ xs, f x + g x ≤ 0) → (xs.map f).sum + (xs.map g).sum ≤ 0
  | [], _ => Int.le_refl _
  | x :: xs, h => by
    have h0 := h x List.mem_cons_self
    have ih := sum_anti (xs := xs) fun y hy => h y (List.mem_cons_of_mem _ hy)
    simp only [List.map_cons, List.sum_cons]
    omega
theorem least_anti {c : Cnt} (hc : CntB c) {one other : Str} (e : one ≠ other) : leastB c one other + leastB c other one ≤ 0 := by
  have e2 : ¬ other = one := fun h => e h.symm
  have h1 := sum_anti (f := ptP one other) (g := ptP other one) (xs := c.piles) fun p hp => by
    have hp := hc.piles p hp
    have hl := hp.low
    have hs := hp.slip0
    unfold ptP
    rw [if_neg e, if_neg e2]
    by_cases ho : other ∈ namP p
    · rw [if_pos ho]
      split
      · omega
      · split <;> omega
    · rw [if_neg ho]
      have hs2 : ¬ namP p = [other] := fun h => ho (by rw [h]; exact List.mem_singleton.mpr rfl)
      rw [if_neg hs2]
      by_cases h1 : namP p = [one]
      · rw [if_pos h1, if_pos (by rw [h1]; exact List.mem_singleton.mpr rfl)]; omega
      · rw [if_neg h1]
        split <;> omega
  have h2 := sum_anti (f := ptD one other) (g := ptD other one) (xs := c.doubts) fun d hd => by
    unfold ptD
    rw [if_neg e, if_neg e2]
    by_cases ho : other ∈ d
    · rw [if_pos ho]
      split
      · omega
      · split <;> omega
    · rw [if_neg ho]
      have hs2 : ¬ d = [other] := fun h => ho (by rw [h]; exact List.mem_singleton.mpr rfl)
      rw [if_neg hs2]
      by_cases h1 : d = [one]
      · rw [if_pos h1, if_pos (by rw [h1]; exact List.mem_singleton.mpr rfl)]; omega
      · rw [if_neg h1]
        split <;> omega
  unfold leastB
  omega
theorem sure_anti {c : Cnt} (hc : CntB c) {one other : Str} (e : one ≠ other) (h1 : sureB c one other = true) (h2 : sureB c other one = true) : False := by
  have h := least_anti hc e
  unfold sureB at h1 h2
  split at h1
  · split at h2
    · have a := of_decide_eq_true h1
      have b := of_decide_eq_true h2
      omega
    · have b := of_decide_eq_true h2
      omega
  · have a := of_decide_eq_true h1
    split at h2
    · omega
    · have b := of_decide_eq_true h2
      omega
def aheadV (lots : List Str) (v : Str → Int) (one other : Str) : Bool := if v one = v other then decide (idxO lots one < idxO lots other) else decide (v one > v other)
def aheadAll (c : Cnt) (one : Str) : Bool := (c.lots.filter fun x => !(x == one)).all (sureB c one)
theorem aheadAll_get {c : Cnt} {one other : Str} (h : aheadAll c one = true) (ho : other ∈ c.lots) (e : other ≠ one) : sureB c one other = true :=
  List.all_eq_true.mp h other (List.mem_filter.mpr ⟨ho, by simpa using e⟩)
theorem aheadAll_one {c : Cnt} (hc : CntB c) {x y : Str} (hx : x ∈ c.lots) (hy : y ∈ c.lots) (h1 : aheadAll c x = true) (h2 : aheadAll c y = true) : x = y := by
  by_cases e : x = y
  · exact e
  · exact (sure_anti hc e (aheadAll_get h1 hy fun z => e z.symm) (aheadAll_get h2 hx e)).elim
end Z

namespace Z
open PySem PySem.Spec L2

/-! ### piles placed: a dict of their names -/
def plK (pl : List (Nat × Str)) : List (Key × Dv) := pl.map fun x => (.inl ((x.1 : Nat) : Int), .str x.2)
def lookP (pl : List (Nat × Str)) (k : Nat) : Option Str := (pl.find? fun x => decide (x.1 = k)).map (·.2)
theorem plK_any {pl : List (Nat × Str)} {k : Nat} : ((plK pl).any fun kv => decide (kv.1 = Sum.inl ((k : Nat) : Int))) = (lookP pl k).isSome := by
  unfold plK lookP
  induction pl with
  | nil => rfl
  | cons x r ih =>
    rw [List.map_cons, List.any_cons, List.find?_cons, ih]
    by_cases h : x.1 = k
    · rw [decide_eq_true h, decide_eq_true (by rw [h])]; rfl
    · rw [decide_eq_false h, decide_eq_false (fun e => h (by injection e with e; omega))]; rfl
theorem plK_look {pl : List (Nat × Str)} {k : Nat} : lookK (plK pl) (.inl ((k : Nat) : Int)) = (lookP pl k).map Dv.str := by
  show ((plK pl).find? fun kv => decide (kv.1 = Sum.inl ((k : Nat) : Int))).map (·.2) = _
  unfold plK lookP
  induction pl with
  | nil => rfl
  | cons x r ih =>
    rw [List.map_cons, List.find?_cons, List.find?_cons]
    by_cases h : x.1 = k
    · rw [decide_eq_true h, decide_eq_true (by rw [h])]; rfl
    · rw [decide_eq_false h, decide_eq_false (fun e => h (by injection e with e; omega))]; exact ih
theorem inK_pl {pl : List (Nat × Str)} {n k : Nat} {s : Sto} (h : s[n]? = some (.dk (plK pl))) : gInK (.int (k : Nat)) (.loc n) s = .ok (.bl (lookP pl k).isSome) s := by
  show (match s[n]? with | some (.dk kvs) => (match keyD (.int (k : Nat)) with | some k => Rs.ok (Dv.bl (kvs.any fun kv => decide (kv.1 = k))) s | none => .bad) | _ => .bad) = _
  rw [h]
  show Rs.ok (Dv.bl ((plK pl).any fun kv => decide (kv.1 = Sum.inl ((k : Nat) : Int)))) s = _
  rw [plK_any]
theorem ix_pl {pl : List (Nat × Str)} {n k : Nat} {z : Str} {s : Sto} (h : s[n]? = some (.dk (plK pl))) (hz : lookP pl k = some z) : gIx (.loc n) (.int (k : Nat)) s = .ok (.str z) s := by
  show (match s[n]?, Dv.int ((k : Nat) : Int) with | some (.lst ds), .int i => (match atI ds i with | some d => Rs.ok d s | none => .bad) | some (.dk kvs), .int i => (match lookK kvs (.inl i) with | some d => .ok d s | none => .bad) | some (.dk kvs), .str z => (match lookK kvs (.inr z) with | some d => .ok d s | none => .bad) | _, _ => .bad) = _
  rw [h]
  show (match lookK (plK pl) (.inl ((k : Nat) : Int)) with | some d => Rs.ok d s | none => .bad) = _
  rw [plK_look, hz]; rfl
def undP (pl : List (Nat × Str)) (k : Nat) (p : Pil) : List Str := match lookP pl k with | some z => [z] | none => namP p
def bNamesAt (φn : Phi) : Fn Ct := fRet (fIf (fTest (fBin gInK (fVar 2) (fVar 1))) (fTup (fCons (fBin gIx (fVar 1) (fVar 2)) (fNil))) (fCall φn (fCons (fBin gIx (fBin gIx (fVar 0) (fC (.int 1))) (fVar 2)) (fNil))))
def NamesAtS (φ : Phi) : Prop := ∀ (c : Cnt) (pl : List (Nat × Str)) (n k : Nat) (p : Pil) (s : Sto) (T : Dv → Sto → Prop), CntB c → s[n]? = some (.dk (plK pl)) → c.piles[k]? = some p → T (encS (undP pl k p)) s → OkE nX (φ [encC c, .loc n, .int (k : Nat)] s) T
theorem namesAt_spec {φn : Phi} (hn : NamesP φn) : NamesAtS (fDef 3 3 (bNamesAt φn)) := by
  intro c pl n k p s T hc hs hp hT
  have hpb := hc.piles p (List.mem_of_getElem? hp)
  have ip : ∀ s : Sto, gIx (.tup (c.piles.map encP)) (.int (k : Nat)) s = .ok (encP p) s := fun s => ix_tupN (by rw [List.getElem?_map, hp]; rfl)
  rw [ok_def]
  refine ⟨rfl, ?_⟩
  unfold bNamesAt
  simp only [Y1, Qf, Qt, Qu, Qa, Qg, Qv, Qw, Qx, Qy, Qh, Qz, Jy, Qi, Qb, Qj, Qk, Q0, Jz, Q1, Q2, J0, Q3, Q4, J1, Ql, Qm, Qn, Q5, Qo, Q6, Qp, Q7, Q8, J2, Q9, Ja, J3, J4, J5, Jb, J6, J7, Jc, J8, J9, Jd, Je, Ya, Jf, Yb, Jg, Jh, Y8, Yc, Ji, Yd, Ye, Yf, Yg, Yh, Y2, Jj, Qq, Jk, Yi, Jl, Jm, Yj, Y3, Yk, Yl, Y4, Ym, Y5, Yn, Qc, Yo, Jn, Yp, Yq, Y6, Yr, Qd, Jo, Jp, Y7, Ys, Yt, Yu, Yv, Yw, Yx, Jq, Jr, Qr, Js, Yy, Qe, Qs, List.set_cons_zero, List.set_cons_succ, List.map_cons, List.map_nil, List.replicate, List.cons_append, List.nil_append, List.length_cons, List.length_nil, Bool.false_eq_true, eq_self, if_true, if_false, Nat.zero_add, Jt, Yz, Ju, Jv, Jw, Y0, Jx, true_and, inK_pl hs]
  cases hl : lookP pl k with
  | some z =>
    have hT : T (encS [z]) s := by
      have : undP pl k p = [z] := by simp only [undP, hl]
      rw [← this]; exact hT
    simp only [Y1, Qf, Qt, Qu, Qa, Qg, Qv, Qw, Qx, Qy, Qh, Qz, Jy, Qi, Qb, Qj, Qk, Q0, Jz, Q1, Q2, J0, Q3, Q4, J1, Ql, Qm, Qn, Q5, Qo, Q6, Qp, Q7, Q8, J2, Q9, Ja, J3, J4, J5, Jb, J6, J7, Jc, J8, J9, Jd, Je, Ya, Jf, Yb, Jg, Jh, Y8, Yc, Ji, Yd, Ye, Yf, Yg, Yh, Y2, Jj, Qq, Jk, Yi, Jl, Jm, Yj, Y3, Yk, Yl, Y4, Ym, Y5, Yn, Qc, Yo, Jn, Yp, Yq, Y6, Yr, Qd, Jo, Jp, Y7, Ys, Yt, Yu, Yv, Yw, Yx, Jq, Jr, Qr, Js, Yy, Qe, Qs, List.set_cons_zero, List.set_cons_succ, List.map_cons, List.map_nil, List.replicate, List.cons_append, List.nil_append, List.length_cons, List.length_nil, Bool.false_eq_true, eq_self, if_true, if_false, Nat.zero_add, Jt, Yz, Ju, Jv, Jw, Y0, Jx, true_and, Option.isSome_some, ix_pl hs hl]
    refine ⟨by decide, ?_⟩
    exact fin_any (fun n => nofun) hT
  | none =>
    have hT : T (encS (namP p)) s := by
      have : undP pl k p = namP p := by simp only [undP, hl]
      rw [← this]; exact hT
    simp only [Y1, Qf, Qt, Qu, Qa, Qg, Qv, Qw, Qx, Qy, Qh, Qz, Jy, Qi, Qb, Qj, Qk, Q0, Jz, Q1, Q2, J0, Q3, Q4, J1, Ql, Qm, Qn, Q5, Qo, Q6, Qp, Q7, Q8, J2, Q9, Ja, J3, J4, J5, Jb, J6, J7, Jc, J8, J9, Jd, Je, Ya, Jf, Yb, Jg, Jh, Y8, Yc, Ji, Yd, Ye, Yf, Yg, Yh, Y2, Jj, Qq, Jk, Yi, Jl, Jm, Yj, Y3, Yk, Yl, Y4, Ym, Y5, Yn, Qc, Yo, Jn, Yp, Yq, Y6, Yr, Qd, Jo, Jp, Y7, Ys, Yt, Yu, Yv, Yw, Yx, Jq, Jr, Qr, Js, Yy, Qe, Qs, List.set_cons_zero, List.set_cons_succ, List.map_cons, List.map_nil, List.replicate, List.cons_append, List.nil_append, List.length_cons, List.length_nil, Bool.false_eq_true, eq_self, if_true, if_false, Nat.zero_add, Jt, Yz, Ju, Jv, Jw, Y0, Jx, true_and, Option.isSome_none, ixC1, ip]
    refine hn p s _ (by have := hpb.noth; omega) ?_
    simp only [Y1, Qf, Qt, Qu, Qa, Qg, Qv, Qw, Qx, Qy, Qh, Qz, Jy, Qi, Qb, Qj, Qk, Q0, Jz, Q1, Q2, J0, Q3, Q4, J1, Ql, Qm, Qn, Q5, Qo, Q6, Qp, Q7, Q8, J2, Q9, Ja, J3, J4, J5, Jb, J6, J7, Jc, J8, J9, Jd, Je, Ya, Jf, Yb, Jg, Jh, Y8, Yc, Ji, Yd, Ye, Yf, Yg, Yh, Y2, Jj, Qq, Jk, Yi, Jl, Jm, Yj, Y3, Yk, Yl, Y4, Ym, Y5, Yn, Qc, Yo, Jn, Yp, Yq, Y6, Yr, Qd, Jo, Jp, Y7, Ys, Yt, Yu, Yv, Yw, Yx, Jq, Jr, Qr, Js, Yy, Qe, Qs, List.set_cons_zero, List.set_cons_succ, List.map_cons, List.map_nil, List.replicate, List.cons_append, List.nil_append, List.length_cons, List.length_nil, Bool.false_eq_true, eq_self, if_true, if_false, Nat.zero_add, Jt, Yz, Ju, Jv, Jw, Y0, Jx, true_and]
    exact fin_any (fun n => nofun) hT
/-! ### sums over the piles by their places -/
def atS (f : Nat → Pil → Int) (ps : List Pil) (i : Nat) : Int := ((List.range i).map fun k => match ps[k]? with | some p => f k p | none => 0).sum
theorem atS_succ {f : Nat → Pil → Int} {ps : List Pil} {i : Nat} {p : Pil} (h : ps[i]? = some p) : atS f ps (i + 1) = atS f ps i + f i p := by
  unfold atS
  rw [List.range_succ, List.map_append, List.sum_append, List.map_singleton, h]
  simp
def cntG (name : Str) (ds : List (List Str)) : Int := ((ds.filter fun d => decide (name ∈ d)).length : Nat)
def cntH (names : List Str) (ds : List (List Str)) : Int := ((ds.filter fun d => d.all fun x => decide (x ∈ names)).length : Nat)
def gAt (name : Str) (pl : List (Nat × Str)) (k : Nat) (p : Pil) : Int := if name ∈ undP pl k p then p.many + p.slip else 0
def hAt (names : List Str) (pl : List (Nat × Str)) (k : Nat) (p : Pil) : Int := if (undP pl k p).all (fun x => decide (x ∈ names)) = true then lowP p else 0
def greatF (c : Cnt) (name : Str) (pl : List (Nat × Str)) : Int := cntG name c.doubts + atS (gAt name pl) c.piles c.piles.length
def hadF (c : Cnt) (names : List Str) (pl : List (Nat × Str)) : Int := cntH names c.doubts + atS (hAt names pl) c.piles c.piles.length
def bGreatFor (φa : Phi) : Fn Ct :=
  fSeq (fSet 3 (fCall gLen (fCons (fVal (fLc (fSrc (fBin gIx (fVar 0) (fC (.int 2)))) [6] (gNm 6) (fTest (fBin gIn (fVar 1) (fVar 6))) (fC (.int 1)))) (fNil))))
  (fSeq (fFor (fEnum (fCons (fBin gIx (fVar 0) (fC (.int 1))) (fNil))) (gTp 2 (gsCons (gNm 4) (gsCons (gNm 5) (gsNil)))) (fIfS (fTest (fBin gIn (fVar 1) (fCall φa (fCons (fVar 0) (fCons (fVar 2) (fCons (fVar 4) (fNil))))))) (fSet 3 (fBin gAdd (fBin gAdd (fVar 3) (fBin gIx (fVar 5) (fC (.int 1)))) (fBin gIx (fVar 5) (fC (.int 2))))) (fNop)))
  (fRet (fVar 3)))
def GreatForS (φ : Phi) : Prop := ∀ (c : Cnt) (name : Str) (pl : List (Nat × Str)) (n : Nat) (s : Sto) (T : Dv → Sto → Prop), CntB c → s[n]? = some (.dk (plK pl)) → T (.int (greatF c name pl)) s → OkE nX (φ [encC c, .str name, .loc n] s) T
theorem greatFor_spec {φa : Phi} (ha : NamesAtS φa) : GreatForS (fDef 3 7 (bGreatFor φa)) := by
  intro c name pl n s T hc hs hT
  have np := hc.npiles
  have nd := hc.ndoubts
  rw [ok_def]
  refine ⟨rfl, ?_⟩
  unfold bGreatFor
  simp only [Y1, Qf, Qt, Qu, Qa, Qg, Qv, Qw, Qx, Qy, Qh, Qz, Jy, Qi, Qb, Qj, Qk, Q0, Jz, Q1, Q2, J0, Q3, Q4, J1, Ql, Qm, Qn, Q5, Qo, Q6, Qp, Q7, Q8, J2, Q9, Ja, J3, J4, J5, Jb, J6, J7, Jc, J8, J9, Jd, Je, Ya, Jf, Yb, Jg, Jh, Y8, Yc, Ji, Yd, Ye, Yf, Yg, Yh, Y2, Jj, Qq, Jk, Yi, Jl, Jm, Yj, Y3, Yk, Yl, Y4, Ym, Y5, Yn, Qc, Yo, Jn, Yp, Yq, Y6, Yr, Qd, Jo, Jp, Y7, Ys, Yt, Yu, Yv, Yw, Yx, Jq, Jr, Qr, Js, Yy, Qe, Qs, List.set_cons_zero, List.set_cons_succ, List.map_cons, List.map_nil, List.replicate, List.cons_append, List.nil_append, List.length_cons, List.length_nil, Bool.false_eq_true, eq_self, if_true, if_false, Nat.zero_add, Jt, Yz, Ju, Jv, Jw, Y0, Jx, true_and, ixC2]
  refine ⟨decide_eq_true (by rw [List.length_map]; omega), ?_⟩
  refine ok_pick (xs := c.doubts) (enc := encS) (p := fun d => decide (name ∈ d)) (f := fun _ => Dv.int 1) (fun d hd => ?_) ?_
  · simp only [Y1, Qf, Qt, Qu, Qa, Qg, Qv, Qw, Qx, Qy, Qh, Qz, Jy, Qi, Qb, Qj, Qk, Q0, Jz, Q1, Q2, J0, Q3, Q4, J1, Ql, Qm, Qn, Q5, Qo, Q6, Qp, Q7, Q8, J2, Q9, Ja, J3, J4, J5, Jb, J6, J7, Jc, J8, J9, Jd, Je, Ya, Jf, Yb, Jg, Jh, Y8, Yc, Ji, Yd, Ye, Yf, Yg, Yh, Y2, Jj, Qq, Jk, Yi, Jl, Jm, Yj, Y3, Yk, Yl, Y4, Ym, Y5, Yn, Qc, Yo, Jn, Yp, Yq, Y6, Yr, Qd, Jo, Jp, Y7, Ys, Yt, Yu, Yv, Yw, Yx, Jq, Jr, Qr, Js, Yy, Qe, Qs, List.set_cons_zero, List.set_cons_succ, List.map_cons, List.map_nil, List.replicate, List.cons_append, List.nil_append, List.length_cons, List.length_nil, Bool.false_eq_true, eq_self, if_true, if_false, Nat.zero_add, Jt, Yz, Ju, Jv, Jw, Y0, Jx, true_and, wipeZ, in_strs]
    all_goals first | trivial | exact ⟨rfl, fun _ => trivial⟩ | exact fun _ => trivial | exact ⟨rfl, rfl, fun _ => ⟨rfl, rfl⟩⟩ | exact fun _ => rfl
  simp only [Y1, Qf, Qt, Qu, Qa, Qg, Qv, Qw, Qx, Qy, Qh, Qz, Jy, Qi, Qb, Qj, Qk, Q0, Jz, Q1, Q2, J0, Q3, Q4, J1, Ql, Qm, Qn, Q5, Qo, Q6, Qp, Q7, Q8, J2, Q9, Ja, J3, J4, J5, Jb, J6, J7, Jc, J8, J9, Jd, Je, Ya, Jf, Yb, Jg, Jh, Y8, Yc, Ji, Yd, Ye, Yf, Yg, Yh, Y2, Jj, Qq, Jk, Yi, Jl, Jm, Yj, Y3, Yk, Yl, Y4, Ym, Y5, Yn, Qc, Yo, Jn, Yp, Yq, Y6, Yr, Qd, Jo, Jp, Y7, Ys, Yt, Yu, Yv, Yw, Yx, Jq, Jr, Qr, Js, Yy, Qe, Qs, List.set_cons_zero, List.set_cons_succ, List.map_cons, List.map_nil, List.replicate, List.cons_append, List.nil_append, List.length_cons, List.length_nil, Bool.false_eq_true, eq_self, if_true, if_false, Nat.zero_add, Jt, Yz, Ju, Jv, Jw, Y0, Jx, true_and, len_ls, List.length_map, ok_enum, ixC1]
  refine kEnum_tup ?_
  refine ok_loop (fun i env s' => ∃ v4 v5 : Option Dv, env = [some (encC c), some (.str name), some (.loc n), some (.int (cntG name c.doubts + atS (gAt name pl) c.piles i)), v4, v5, none] ∧ s' = s)
    (fun _ _ _ _ => rfl) (fun i d env s' hd q => ?_) (fun env s' q => ?_) ⟨none, none, by simp [atS, cntG], rfl⟩
  · obtain ⟨v4, v5, rfl, rfl⟩ := q
    obtain ⟨d1, hd1, rfl⟩ := enumD_get hd
    rw [List.getElem?_map] at hd1
    obtain ⟨p, hp, rfl⟩ := Option.map_eq_some_iff.mp hd1
    simp only [Y1, Qf, Qt, Qu, Qa, Qg, Qv, Qw, Qx, Qy, Qh, Qz, Jy, Qi, Qb, Qj, Qk, Q0, Jz, Q1, Q2, J0, Q3, Q4, J1, Ql, Qm, Qn, Q5, Qo, Q6, Qp, Q7, Q8, J2, Q9, Ja, J3, J4, J5, Jb, J6, J7, Jc, J8, J9, Jd, Je, Ya, Jf, Yb, Jg, Jh, Y8, Yc, Ji, Yd, Ye, Yf, Yg, Yh, Y2, Jj, Qq, Jk, Yi, Jl, Jm, Yj, Y3, Yk, Yl, Y4, Ym, Y5, Yn, Qc, Yo, Jn, Yp, Yq, Y6, Yr, Qd, Jo, Jp, Y7, Ys, Yt, Yu, Yv, Yw, Yx, Jq, Jr, Qr, Js, Yy, Qe, Qs, List.set_cons_zero, List.set_cons_succ, List.map_cons, List.map_nil, List.replicate, List.cons_append, List.nil_append, List.length_cons, List.length_nil, Bool.false_eq_true, eq_self, if_true, if_false, Nat.zero_add, Jt, Yz, Ju, Jv, Jw, Y0, Jx, true_and]
    refine ⟨rfl, ?_⟩
    refine ha c pl n i p _ _ hc hs hp ?_
    simp only [Y1, Qf, Qt, Qu, Qa, Qg, Qv, Qw, Qx, Qy, Qh, Qz, Jy, Qi, Qb, Qj, Qk, Q0, Jz, Q1, Q2, J0, Q3, Q4, J1, Ql, Qm, Qn, Q5, Qo, Q6, Qp, Q7, Q8, J2, Q9, Ja, J3, J4, J5, Jb, J6, J7, Jc, J8, J9, Jd, Je, Ya, Jf, Yb, Jg, Jh, Y8, Yc, Ji, Yd, Ye, Yf, Yg, Yh, Y2, Jj, Qq, Jk, Yi, Jl, Jm, Yj, Y3, Yk, Yl, Y4, Ym, Y5, Yn, Qc, Yo, Jn, Yp, Yq, Y6, Yr, Qd, Jo, Jp, Y7, Ys, Yt, Yu, Yv, Yw, Yx, Jq, Jr, Qr, Js, Yy, Qe, Qs, List.set_cons_zero, List.set_cons_succ, List.map_cons, List.map_nil, List.replicate, List.cons_append, List.nil_append, List.length_cons, List.length_nil, Bool.false_eq_true, eq_self, if_true, if_false, Nat.zero_add, Jt, Yz, Ju, Jv, Jw, Y0, Jx, true_and, in_strs]
    rw [atS_succ hp]
    by_cases hm : name ∈ undP pl i p
    · have e : cntG name c.doubts + (atS (gAt name pl) c.piles i + gAt name pl i p) = cntG name c.doubts + atS (gAt name pl) c.piles i + p.many + p.slip := by
        simp only [gAt, if_pos hm]; omega
      rw [decide_eq_true hm, e]
      simp only [Y1, Qf, Qt, Qu, Qa, Qg, Qv, Qw, Qx, Qy, Qh, Qz, Jy, Qi, Qb, Qj, Qk, Q0, Jz, Q1, Q2, J0, Q3, Q4, J1, Ql, Qm, Qn, Q5, Qo, Q6, Qp, Q7, Q8, J2, Q9, Ja, J3, J4, J5, Jb, J6, J7, Jc, J8, J9, Jd, Je, Ya, Jf, Yb, Jg, Jh, Y8, Yc, Ji, Yd, Ye, Yf, Yg, Yh, Y2, Jj, Qq, Jk, Yi, Jl, Jm, Yj, Y3, Yk, Yl, Y4, Ym, Y5, Yn, Qc, Yo, Jn, Yp, Yq, Y6, Yr, Qd, Jo, Jp, Y7, Ys, Yt, Yu, Yv, Yw, Yx, Jq, Jr, Qr, Js, Yy, Qe, Qs, List.set_cons_zero, List.set_cons_succ, List.map_cons, List.map_nil, List.replicate, List.cons_append, List.nil_append, List.length_cons, List.length_nil, Bool.false_eq_true, eq_self, if_true, if_false, Nat.zero_add, Jt, Yz, Ju, Jv, Jw, Y0, Jx, true_and, ixP1, ixP2, add_int]
      first | exact ⟨_, _, rfl, rfl⟩ | exact ⟨_, _, rfl, trivial⟩ | exact ⟨_, _, rfl⟩
    · have e : cntG name c.doubts + (atS (gAt name pl) c.piles i + gAt name pl i p) = cntG name c.doubts + atS (gAt name pl) c.piles i := by
        simp only [gAt, if_neg hm]; omega
      rw [decide_eq_false hm, e]
      simp only [Y1, Qf, Qt, Qu, Qa, Qg, Qv, Qw, Qx, Qy, Qh, Qz, Jy, Qi, Qb, Qj, Qk, Q0, Jz, Q1, Q2, J0, Q3, Q4, J1, Ql, Qm, Qn, Q5, Qo, Q6, Qp, Q7, Q8, J2, Q9, Ja, J3, J4, J5, Jb, J6, J7, Jc, J8, J9, Jd, Je, Ya, Jf, Yb, Jg, Jh, Y8, Yc, Ji, Yd, Ye, Yf, Yg, Yh, Y2, Jj, Qq, Jk, Yi, Jl, Jm, Yj, Y3, Yk, Yl, Y4, Ym, Y5, Yn, Qc, Yo, Jn, Yp, Yq, Y6, Yr, Qd, Jo, Jp, Y7, Ys, Yt, Yu, Yv, Yw, Yx, Jq, Jr, Qr, Js, Yy, Qe, Qs, List.set_cons_zero, List.set_cons_succ, List.map_cons, List.map_nil, List.replicate, List.cons_append, List.nil_append, List.length_cons, List.length_nil, Bool.false_eq_true, eq_self, if_true, if_false, Nat.zero_add, Jt, Yz, Ju, Jv, Jw, Y0, Jx, true_and]
      first | exact ⟨_, _, rfl, rfl⟩ | exact ⟨_, _, rfl, trivial⟩ | exact ⟨_, _, rfl⟩
  · obtain ⟨v4, v5, rfl, rfl⟩ := q
    simp only [Y1, Qf, Qt, Qu, Qa, Qg, Qv, Qw, Qx, Qy, Qh, Qz, Jy, Qi, Qb, Qj, Qk, Q0, Jz, Q1, Q2, J0, Q3, Q4, J1, Ql, Qm, Qn, Q5, Qo, Q6, Qp, Q7, Q8, J2, Q9, Ja, J3, J4, J5, Jb, J6, J7, Jc, J8, J9, Jd, Je, Ya, Jf, Yb, Jg, Jh, Y8, Yc, Ji, Yd, Ye, Yf, Yg, Yh, Y2, Jj, Qq, Jk, Yi, Jl, Jm, Yj, Y3, Yk, Yl, Y4, Ym, Y5, Yn, Qc, Yo, Jn, Yp, Yq, Y6, Yr, Qd, Jo, Jp, Y7, Ys, Yt, Yu, Yv, Yw, Yx, Jq, Jr, Qr, Js, Yy, Qe, Qs, List.set_cons_zero, List.set_cons_succ, List.map_cons, List.map_nil, List.replicate, List.cons_append, List.nil_append, List.length_cons, List.length_nil, Bool.false_eq_true, eq_self, if_true, if_false, Nat.zero_add, Jt, Yz, Ju, Jv, Jw, Y0, Jx, true_and]
    refine fin_any (fun n => nofun) ?_
    have : (enumD (c.piles.map encP)).length = c.piles.length := by unfold enumD; rw [List.length_mapIdx, List.length_map]
    rw [this]
    exact hT
end Z

namespace Z
open PySem PySem.Spec L2

/-! ### among, had, room, barred -/
def bAmong : Fn Ct := fRet (fCall gAll (fCons (fVal (fLc (fSrc (fVar 0)) [2] (gNm 2) (fYes) (fBin gIn (fVar 2) (fVar 1)))) (fNil)))
def AmongS (φ : Phi) : Prop := ∀ (xs ys : List Str) (s : Sto) (T : Dv → Sto → Prop), xs.length ≤ 1000 → T (.bl (xs.all fun x => decide (x ∈ ys))) s → OkE nX (φ [encS xs, encS ys] s) T
theorem among_spec : AmongS (fDef 2 3 bAmong) := by
  intro xs ys s T hxl hT
  rw [ok_def]
  refine ⟨rfl, ?_⟩
  unfold bAmong
  simp only [Y1, Qf, Qt, Qu, Qa, Qg, Qv, Qw, Qx, Qy, Qh, Qz, Jy, Qi, Qb, Qj, Qk, Q0, Jz, Q1, Q2, J0, Q3, Q4, J1, Ql, Qm, Qn, Q5, Qo, Q6, Qp, Q7, Q8, J2, Q9, Ja, J3, J4, J5, Jb, J6, J7, Jc, J8, J9, Jd, Je, Ya, Jf, Yb, Jg, Jh, Y8, Yc, Ji, Yd, Ye, Yf, Yg, Yh, Y2, Jj, Qq, Jk, Yi, Jl, Jm, Yj, Y3, Yk, Yl, Y4, Ym, Y5, Yn, Qc, Yo, Jn, Yp, Yq, Y6, Yr, Qd, Jo, Jp, Y7, Ys, Yt, Yu, Yv, Yw, Yx, Jq, Jr, Qr, Js, Yy, Qe, Qs, List.set_cons_zero, List.set_cons_succ, List.map_cons, List.map_nil, List.replicate, List.cons_append, List.nil_append, List.length_cons, List.length_nil, Bool.false_eq_true, eq_self, if_true, if_false, Nat.zero_add, Jt, Yz, Ju, Jv, Jw, Y0, Jx, true_and]
  refine ⟨decide_eq_true (by rw [List.length_map]; omega), ?_⟩
  refine ok_pick (xs := xs) (enc := Dv.str) (p := fun _ => true) (f := fun x => Dv.bl (decide (x ∈ ys))) (fun x hx => ?_) ?_
  · simp only [Y1, Qf, Qt, Qu, Qa, Qg, Qv, Qw, Qx, Qy, Qh, Qz, Jy, Qi, Qb, Qj, Qk, Q0, Jz, Q1, Q2, J0, Q3, Q4, J1, Ql, Qm, Qn, Q5, Qo, Q6, Qp, Q7, Q8, J2, Q9, Ja, J3, J4, J5, Jb, J6, J7, Jc, J8, J9, Jd, Je, Ya, Jf, Yb, Jg, Jh, Y8, Yc, Ji, Yd, Ye, Yf, Yg, Yh, Y2, Jj, Qq, Jk, Yi, Jl, Jm, Yj, Y3, Yk, Yl, Y4, Ym, Y5, Yn, Qc, Yo, Jn, Yp, Yq, Y6, Yr, Qd, Jo, Jp, Y7, Ys, Yt, Yu, Yv, Yw, Yx, Jq, Jr, Qr, Js, Yy, Qe, Qs, List.set_cons_zero, List.set_cons_succ, List.map_cons, List.map_nil, List.replicate, List.cons_append, List.nil_append, List.length_cons, List.length_nil, Bool.false_eq_true, eq_self, if_true, if_false, Nat.zero_add, Jt, Yz, Ju, Jv, Jw, Y0, Jx, true_and, wipeZ, in_strs]
    all_goals first | trivial | exact fun _ => ⟨rfl, rfl⟩ | exact fun _ => trivial | exact fun _ => rfl
  rw [filter_yes]
  simp only [Y1, Qf, Qt, Qu, Qa, Qg, Qv, Qw, Qx, Qy, Qh, Qz, Jy, Qi, Qb, Qj, Qk, Q0, Jz, Q1, Q2, J0, Q3, Q4, J1, Ql, Qm, Qn, Q5, Qo, Q6, Qp, Q7, Q8, J2, Q9, Ja, J3, J4, J5, Jb, J6, J7, Jc, J8, J9, Jd, Je, Ya, Jf, Yb, Jg, Jh, Y8, Yc, Ji, Yd, Ye, Yf, Yg, Yh, Y2, Jj, Qq, Jk, Yi, Jl, Jm, Yj, Y3, Yk, Yl, Y4, Ym, Y5, Yn, Qc, Yo, Jn, Yp, Yq, Y6, Yr, Qd, Jo, Jp, Y7, Ys, Yt, Yu, Yv, Yw, Yx, Jq, Jr, Qr, Js, Yy, Qe, Qs, List.set_cons_zero, List.set_cons_succ, List.map_cons, List.map_nil, List.replicate, List.cons_append, List.nil_append, List.length_cons, List.length_nil, Bool.false_eq_true, eq_self, if_true, if_false, Nat.zero_add, Jt, Yz, Ju, Jv, Jw, Y0, Jx, true_and, all_map]
  exact fin_any (fun n => nofun) hT
theorem und_len {lots : List Str} {pl : List (Nat × Str)} {k : Nat} {p : Pil} (h : PilB lots p) : (undP pl k p).length ≤ 1000 := by
  unfold undP
  have := h.noth
  split
  · simp
  · unfold namP; rw [List.length_cons]; omega
def bHadBy (φm φa φl : Phi) : Fn Ct :=
  fSeq (fSet 3 (fCall gLen (fCons (fVal (fLc (fSrc (fBin gIx (fVar 0) (fC (.int 2)))) [6] (gNm 6) (fTest (fCall φm (fCons (fVar 6) (fCons (fVar 1) (fNil))))) (fC (.int 1)))) (fNil))))
  (fSeq (fFor (fEnum (fCons (fBin gIx (fVar 0) (fC (.int 1))) (fNil))) (gTp 2 (gsCons (gNm 4) (gsCons (gNm 5) (gsNil)))) (fIfS (fTest (fCall φm (fCons (fCall φa (fCons (fVar 0) (fCons (fVar 2) (fCons (fVar 4) (fNil))))) (fCons (fVar 1) (fNil))))) (fSet 3 (fBin gAdd (fVar 3) (fCall φl (fCons (fVar 5) (fNil))))) (fNop)))
  (fRet (fVar 3)))
def HadByS (φ : Phi) : Prop := ∀ (c : Cnt) (names : List Str) (pl : List (Nat × Str)) (n : Nat) (s : Sto) (T : Dv → Sto → Prop), CntB c → s[n]? = some (.dk (plK pl)) → T (.int (hadF c names pl)) s → OkE nX (φ [encC c, encS names, .loc n] s) T
theorem hadBy_spec {φm φa φl : Phi} (hm : AmongS φm) (ha : NamesAtS φa) (hl : LeastP φl) : HadByS (fDef 3 7 (bHadBy φm φa φl)) := by
  intro c names pl n s T hc hs hT
  have np := hc.npiles
  have nd := hc.ndoubts
  rw [ok_def]
  refine ⟨rfl, ?_⟩
  unfold bHadBy
  simp only [Y1, Qf, Qt, Qu, Qa, Qg, Qv, Qw, Qx, Qy, Qh, Qz, Jy, Qi, Qb, Qj, Qk, Q0, Jz, Q1, Q2, J0, Q3, Q4, J1, Ql, Qm, Qn, Q5, Qo, Q6, Qp, Q7, Q8, J2, Q9, Ja, J3, J4, J5, Jb, J6, J7, Jc, J8, J9, Jd, Je, Ya, Jf, Yb, Jg, Jh, Y8, Yc, Ji, Yd, Ye, Yf, Yg, Yh, Y2, Jj, Qq, Jk, Yi, Jl, Jm, Yj, Y3, Yk, Yl, Y4, Ym, Y5, Yn, Qc, Yo, Jn, Yp, Yq, Y6, Yr, Qd, Jo, Jp, Y7, Ys, Yt, Yu, Yv, Yw, Yx, Jq, Jr, Qr, Js, Yy, Qe, Qs, List.set_cons_zero, List.set_cons_succ, List.map_cons, List.map_nil, List.replicate, List.cons_append, List.nil_append, List.length_cons, List.length_nil, Bool.false_eq_true, eq_self, if_true, if_false, Nat.zero_add, Jt, Yz, Ju, Jv, Jw, Y0, Jx, true_and, ixC2]
  refine ⟨decide_eq_true (by rw [List.length_map]; omega), ?_⟩
  refine ok_pick (xs := c.doubts) (enc := encS) (p := fun d => d.all fun x => decide (x ∈ names)) (f := fun _ => Dv.int 1) (fun d hd => ?_) ?_
  · simp only [Y1, Qf, Qt, Qu, Qa, Qg, Qv, Qw, Qx, Qy, Qh, Qz, Jy, Qi, Qb, Qj, Qk, Q0, Jz, Q1, Q2, J0, Q3, Q4, J1, Ql, Qm, Qn, Q5, Qo, Q6, Qp, Q7, Q8, J2, Q9, Ja, J3, J4, J5, Jb, J6, J7, Jc, J8, J9, Jd, Je, Ya, Jf, Yb, Jg, Jh, Y8, Yc, Ji, Yd, Ye, Yf, Yg, Yh, Y2, Jj, Qq, Jk, Yi, Jl, Jm, Yj, Y3, Yk, Yl, Y4, Ym, Y5, Yn, Qc, Yo, Jn, Yp, Yq, Y6, Yr, Qd, Jo, Jp, Y7, Ys, Yt, Yu, Yv, Yw, Yx, Jq, Jr, Qr, Js, Yy, Qe, Qs, List.set_cons_zero, List.set_cons_succ, List.map_cons, List.map_nil, List.replicate, List.cons_append, List.nil_append, List.length_cons, List.length_nil, Bool.false_eq_true, eq_self, if_true, if_false, Nat.zero_add, Jt, Yz, Ju, Jv, Jw, Y0, Jx, true_and, wipeZ]
    refine hm d names s _ (by have := (hc.doubts d hd).2.1; omega) ?_
    simp only [Y1, Qf, Qt, Qu, Qa, Qg, Qv, Qw, Qx, Qy, Qh, Qz, Jy, Qi, Qb, Qj, Qk, Q0, Jz, Q1, Q2, J0, Q3, Q4, J1, Ql, Qm, Qn, Q5, Qo, Q6, Qp, Q7, Q8, J2, Q9, Ja, J3, J4, J5, Jb, J6, J7, Jc, J8, J9, Jd, Je, Ya, Jf, Yb, Jg, Jh, Y8, Yc, Ji, Yd, Ye, Yf, Yg, Yh, Y2, Jj, Qq, Jk, Yi, Jl, Jm, Yj, Y3, Yk, Yl, Y4, Ym, Y5, Yn, Qc, Yo, Jn, Yp, Yq, Y6, Yr, Qd, Jo, Jp, Y7, Ys, Yt, Yu, Yv, Yw, Yx, Jq, Jr, Qr, Js, Yy, Qe, Qs, List.set_cons_zero, List.set_cons_succ, List.map_cons, List.map_nil, List.replicate, List.cons_append, List.nil_append, List.length_cons, List.length_nil, Bool.false_eq_true, eq_self, if_true, if_false, Nat.zero_add, Jt, Yz, Ju, Jv, Jw, Y0, Jx, true_and]
    all_goals first | trivial | exact ⟨rfl, fun _ => trivial⟩ | exact fun _ => trivial | exact ⟨rfl, rfl, fun _ => ⟨rfl, rfl⟩⟩ | exact fun _ => rfl
  simp only [Y1, Qf, Qt, Qu, Qa, Qg, Qv, Qw, Qx, Qy, Qh, Qz, Jy, Qi, Qb, Qj, Qk, Q0, Jz, Q1, Q2, J0, Q3, Q4, J1, Ql, Qm, Qn, Q5, Qo, Q6, Qp, Q7, Q8, J2, Q9, Ja, J3, J4, J5, Jb, J6, J7, Jc, J8, J9, Jd, Je, Ya, Jf, Yb, Jg, Jh, Y8, Yc, Ji, Yd, Ye, Yf, Yg, Yh, Y2, Jj, Qq, Jk, Yi, Jl, Jm, Yj, Y3, Yk, Yl, Y4, Ym, Y5, Yn, Qc, Yo, Jn, Yp, Yq, Y6, Yr, Qd, Jo, Jp, Y7, Ys, Yt, Yu, Yv, Yw, Yx, Jq, Jr, Qr, Js, Yy, Qe, Qs, List.set_cons_zero, List.set_cons_succ, List.map_cons, List.map_nil, List.replicate, List.cons_append, List.nil_append, List.length_cons, List.length_nil, Bool.false_eq_true, eq_self, if_true, if_false, Nat.zero_add, Jt, Yz, Ju, Jv, Jw, Y0, Jx, true_and, len_ls, List.length_map, ok_enum, ixC1]
  refine kEnum_tup ?_
  refine ok_loop (fun i env s' => ∃ v4 v5 : Option Dv, env = [some (encC c), some (encS names), some (.loc n), some (.int (cntH names c.doubts + atS (hAt names pl) c.piles i)), v4, v5, none] ∧ s' = s)
    (fun _ _ _ _ => rfl) (fun i d env s' hd q => ?_) (fun env s' q => ?_) ⟨none, none, by simp [atS, cntH], rfl⟩
  · obtain ⟨v4, v5, rfl, rfl⟩ := q
    obtain ⟨d1, hd1, rfl⟩ := enumD_get hd
    rw [List.getElem?_map] at hd1
    obtain ⟨p, hp, rfl⟩ := Option.map_eq_some_iff.mp hd1
    simp only [Y1, Qf, Qt, Qu, Qa, Qg, Qv, Qw, Qx, Qy, Qh, Qz, Jy, Qi, Qb, Qj, Qk, Q0, Jz, Q1, Q2, J0, Q3, Q4, J1, Ql, Qm, Qn, Q5, Qo, Q6, Qp, Q7, Q8, J2, Q9, Ja, J3, J4, J5, Jb, J6, J7, Jc, J8, J9, Jd, Je, Ya, Jf, Yb, Jg, Jh, Y8, Yc, Ji, Yd, Ye, Yf, Yg, Yh, Y2, Jj, Qq, Jk, Yi, Jl, Jm, Yj, Y3, Yk, Yl, Y4, Ym, Y5, Yn, Qc, Yo, Jn, Yp, Yq, Y6, Yr, Qd, Jo, Jp, Y7, Ys, Yt, Yu, Yv, Yw, Yx, Jq, Jr, Qr, Js, Yy, Qe, Qs, List.set_cons_zero, List.set_cons_succ, List.map_cons, List.map_nil, List.replicate, List.cons_append, List.nil_append, List.length_cons, List.length_nil, Bool.false_eq_true, eq_self, if_true, if_false, Nat.zero_add, Jt, Yz, Ju, Jv, Jw, Y0, Jx, true_and]
    refine ⟨rfl, ?_⟩
    refine ha c pl n i p _ _ hc hs hp ?_
    simp only [Y1, Qf, Qt, Qu, Qa, Qg, Qv, Qw, Qx, Qy, Qh, Qz, Jy, Qi, Qb, Qj, Qk, Q0, Jz, Q1, Q2, J0, Q3, Q4, J1, Ql, Qm, Qn, Q5, Qo, Q6, Qp, Q7, Q8, J2, Q9, Ja, J3, J4, J5, Jb, J6, J7, Jc, J8, J9, Jd, Je, Ya, Jf, Yb, Jg, Jh, Y8, Yc, Ji, Yd, Ye, Yf, Yg, Yh, Y2, Jj, Qq, Jk, Yi, Jl, Jm, Yj, Y3, Yk, Yl, Y4, Ym, Y5, Yn, Qc, Yo, Jn, Yp, Yq, Y6, Yr, Qd, Jo, Jp, Y7, Ys, Yt, Yu, Yv, Yw, Yx, Jq, Jr, Qr, Js, Yy, Qe, Qs, List.set_cons_zero, List.set_cons_succ, List.map_cons, List.map_nil, List.replicate, List.cons_append, List.nil_append, List.length_cons, List.length_nil, Bool.false_eq_true, eq_self, if_true, if_false, Nat.zero_add, Jt, Yz, Ju, Jv, Jw, Y0, Jx, true_and]
    refine hm _ names _ _ (und_len (hc.piles p (List.mem_of_getElem? hp))) ?_
    rw [atS_succ hp]
    cases hq : (undP pl i p).all (fun x => decide (x ∈ names)) with
    | true =>
      have e : cntH names c.doubts + (atS (hAt names pl) c.piles i + hAt names pl i p) = cntH names c.doubts + atS (hAt names pl) c.piles i + lowP p := by
        simp only [hAt, hq, if_true]; omega
      rw [e]
      simp only [Y1, Qf, Qt, Qu, Qa, Qg, Qv, Qw, Qx, Qy, Qh, Qz, Jy, Qi, Qb, Qj, Qk, Q0, Jz, Q1, Q2, J0, Q3, Q4, J1, Ql, Qm, Qn, Q5, Qo, Q6, Qp, Q7, Q8, J2, Q9, Ja, J3, J4, J5, Jb, J6, J7, Jc, J8, J9, Jd, Je, Ya, Jf, Yb, Jg, Jh, Y8, Yc, Ji, Yd, Ye, Yf, Yg, Yh, Y2, Jj, Qq, Jk, Yi, Jl, Jm, Yj, Y3, Yk, Yl, Y4, Ym, Y5, Yn, Qc, Yo, Jn, Yp, Yq, Y6, Yr, Qd, Jo, Jp, Y7, Ys, Yt, Yu, Yv, Yw, Yx, Jq, Jr, Qr, Js, Yy, Qe, Qs, List.set_cons_zero, List.set_cons_succ, List.map_cons, List.map_nil, List.replicate, List.cons_append, List.nil_append, List.length_cons, List.length_nil, Bool.false_eq_true, eq_self, if_true, if_false, Nat.zero_add, Jt, Yz, Ju, Jv, Jw, Y0, Jx, true_and]
      refine hl p _ _ ?_
      simp only [Y1, Qf, Qt, Qu, Qa, Qg, Qv, Qw, Qx, Qy, Qh, Qz, Jy, Qi, Qb, Qj, Qk, Q0, Jz, Q1, Q2, J0, Q3, Q4, J1, Ql, Qm, Qn, Q5, Qo, Q6, Qp, Q7, Q8, J2, Q9, Ja, J3, J4, J5, Jb, J6, J7, Jc, J8, J9, Jd, Je, Ya, Jf, Yb, Jg, Jh, Y8, Yc, Ji, Yd, Ye, Yf, Yg, Yh, Y2, Jj, Qq, Jk, Yi, Jl, Jm, Yj, Y3, Yk, Yl, Y4, Ym, Y5, Yn, Qc, Yo, Jn, Yp, Yq, Y6, Yr, Qd, Jo, Jp, Y7, Ys, Yt, Yu, Yv, Yw, Yx, Jq, Jr, Qr, Js, Yy, Qe, Qs, List.set_cons_zero, List.set_cons_succ, List.map_cons, List.map_nil, List.replicate, List.cons_append, List.nil_append, List.length_cons, List.length_nil, Bool.false_eq_true, eq_self, if_true, if_false, Nat.zero_add, Jt, Yz, Ju, Jv, Jw, Y0, Jx, true_and, add_int]
      first | exact ⟨_, _, rfl, rfl⟩ | exact ⟨_, _, rfl, trivial⟩ | exact ⟨_, _, rfl⟩
    | false =>
      have e : cntH names c.doubts + (atS (hAt names pl) c.piles i + hAt names pl i p) = cntH names c.doubts + atS (hAt names pl) c.piles i := by
        simp only [hAt, hq, Bool.false_eq_true, if_false]; omega
      rw [e]
      simp only [Y1, Qf, Qt, Qu, Qa, Qg, Qv, Qw, Qx, Qy, Qh, Qz, Jy, Qi, Qb, Qj, Qk, Q0, Jz, Q1, Q2, J0, Q3, Q4, J1, Ql, Qm, Qn, Q5, Qo, Q6, Qp, Q7, Q8, J2, Q9, Ja, J3, J4, J5, Jb, J6, J7, Jc, J8, J9, Jd, Je, Ya, Jf, Yb, Jg, Jh, Y8, Yc, Ji, Yd, Ye, Yf, Yg, Yh, Y2, Jj, Qq, Jk, Yi, Jl, Jm, Yj, Y3, Yk, Yl, Y4, Ym, Y5, Yn, Qc, Yo, Jn, Yp, Yq, Y6, Yr, Qd, Jo, Jp, Y7, Ys, Yt, Yu, Yv, Yw, Yx, Jq, Jr, Qr, Js, Yy, Qe, Qs, List.set_cons_zero, List.set_cons_succ, List.map_cons, List.map_nil, List.replicate, List.cons_append, List.nil_append, List.length_cons, List.length_nil, Bool.false_eq_true, eq_self, if_true, if_false, Nat.zero_add, Jt, Yz, Ju, Jv, Jw, Y0, Jx, true_and]
      first | exact ⟨_, _, rfl, rfl⟩ | exact ⟨_, _, rfl, trivial⟩ | exact ⟨_, _, rfl⟩
  · obtain ⟨v4, v5, rfl, rfl⟩ := q
    simp only [Y1, Qf, Qt, Qu, Qa, Qg, Qv, Qw, Qx, Qy, Qh, Qz, Jy, Qi, Qb, Qj, Qk, Q0, Jz, Q1, Q2, J0, Q3, Q4, J1, Ql, Qm, Qn, Q5, Qo, Q6, Qp, Q7, Q8, J2, Q9, Ja, J3, J4, J5, Jb, J6, J7, Jc, J8, J9, Jd, Je, Ya, Jf, Yb, Jg, Jh, Y8, Yc, Ji, Yd, Ye, Yf, Yg, Yh, Y2, Jj, Qq, Jk, Yi, Jl, Jm, Yj, Y3, Yk, Yl, Y4, Ym, Y5, Yn, Qc, Yo, Jn, Yp, Yq, Y6, Yr, Qd, Jo, Jp, Y7, Ys, Yt, Yu, Yv, Yw, Yx, Jq, Jr, Qr, Js, Yy, Qe, Qs, List.set_cons_zero, List.set_cons_succ, List.map_cons, List.map_nil, List.replicate, List.cons_append, List.nil_append, List.length_cons, List.length_nil, Bool.false_eq_true, eq_self, if_true, if_false, Nat.zero_add, Jt, Yz, Ju, Jv, Jw, Y0, Jx, true_and]
    refine fin_any (fun n => nofun) ?_
    rw [enumD_len, List.length_map]
    exact hT
def aheadI (c : Cnt) (name o : Str) : Int := if idxO c.lots o < idxO c.lots name then 1 else 0
def bRoom : Fn Ct := fRet (fBin gSub (fVar 2) (fCall gToInt (fCons (fBin gLt (fIndex (fBin gIx (fVar 0) (fC (.int 0))) (fCons (fVar 3) (fNil))) (fIndex (fBin gIx (fVar 0) (fC (.int 0))) (fCons (fVar 1) (fNil)))) (fNil))))
def RoomS (φ : Phi) : Prop := ∀ (c : Cnt) (name o : Str) (g : Int) (s : Sto) (T : Dv → Sto → Prop), name ∈ c.lots → o ∈ c.lots → T (.int (g - aheadI c name o)) s → OkE nX (φ [encC c, .str name, .int g, .str o] s) T
theorem room_spec : RoomS (fDef 4 4 bRoom) := by
  intro c name o g s T hn ho hT
  rw [ok_def]
  refine ⟨rfl, ?_⟩
  unfold bRoom
  simp only [Y1, Qf, Qt, Qu, Qa, Qg, Qv, Qw, Qx, Qy, Qh, Qz, Jy, Qi, Qb, Qj, Qk, Q0, Jz, Q1, Q2, J0, Q3, Q4, J1, Ql, Qm, Qn, Q5, Qo, Q6, Qp, Q7, Q8, J2, Q9, Ja, J3, J4, J5, Jb, J6, J7, Jc, J8, J9, Jd, Je, Ya, Jf, Yb, Jg, Jh, Y8, Yc, Ji, Yd, Ye, Yf, Yg, Yh, Y2, Jj, Qq, Jk, Yi, Jl, Jm, Yj, Y3, Yk, Yl, Y4, Ym, Y5, Yn, Qc, Yo, Jn, Yp, Yq, Y6, Yr, Qd, Jo, Jp, Y7, Ys, Yt, Yu, Yv, Yw, Yx, Jq, Jr, Qr, Js, Yy, Qe, Qs, List.set_cons_zero, List.set_cons_succ, List.map_cons, List.map_nil, List.replicate, List.cons_append, List.nil_append, List.length_cons, List.length_nil, Bool.false_eq_true, eq_self, if_true, if_false, Nat.zero_add, Jt, Yz, Ju, Jv, Jw, Y0, Jx, true_and]
  refine ok_indexO (xs := c.lots) (z := o) (by show (gIx (encC c) (.int 0) s) = _; exact ixC0) rfl ho ?_
  simp only [Y1, Qf, Qt, Qu, Qa, Qg, Qv, Qw, Qx, Qy, Qh, Qz, Jy, Qi, Qb, Qj, Qk, Q0, Jz, Q1, Q2, J0, Q3, Q4, J1, Ql, Qm, Qn, Q5, Qo, Q6, Qp, Q7, Q8, J2, Q9, Ja, J3, J4, J5, Jb, J6, J7, Jc, J8, J9, Jd, Je, Ya, Jf, Yb, Jg, Jh, Y8, Yc, Ji, Yd, Ye, Yf, Yg, Yh, Y2, Jj, Qq, Jk, Yi, Jl, Jm, Yj, Y3, Yk, Yl, Y4, Ym, Y5, Yn, Qc, Yo, Jn, Yp, Yq, Y6, Yr, Qd, Jo, Jp, Y7, Ys, Yt, Yu, Yv, Yw, Yx, Jq, Jr, Qr, Js, Yy, Qe, Qs, List.set_cons_zero, List.set_cons_succ, List.map_cons, List.map_nil, List.replicate, List.cons_append, List.nil_append, List.length_cons, List.length_nil, Bool.false_eq_true, eq_self, if_true, if_false, Nat.zero_add, Jt, Yz, Ju, Jv, Jw, Y0, Jx, true_and]
  refine ok_indexO (xs := c.lots) (z := name) (by show (gIx (encC c) (.int 0) s) = _; exact ixC0) rfl hn ?_
  simp only [Y1, Qf, Qt, Qu, Qa, Qg, Qv, Qw, Qx, Qy, Qh, Qz, Jy, Qi, Qb, Qj, Qk, Q0, Jz, Q1, Q2, J0, Q3, Q4, J1, Ql, Qm, Qn, Q5, Qo, Q6, Qp, Q7, Q8, J2, Q9, Ja, J3, J4, J5, Jb, J6, J7, Jc, J8, J9, Jd, Je, Ya, Jf, Yb, Jg, Jh, Y8, Yc, Ji, Yd, Ye, Yf, Yg, Yh, Y2, Jj, Qq, Jk, Yi, Jl, Jm, Yj, Y3, Yk, Yl, Y4, Ym, Y5, Yn, Qc, Yo, Jn, Yp, Yq, Y6, Yr, Qd, Jo, Jp, Y7, Ys, Yt, Yu, Yv, Yw, Yx, Jq, Jr, Qr, Js, Yy, Qe, Qs, List.set_cons_zero, List.set_cons_succ, List.map_cons, List.map_nil, List.replicate, List.cons_append, List.nil_append, List.length_cons, List.length_nil, Bool.false_eq_true, eq_self, if_true, if_false, Nat.zero_add, Jt, Yz, Ju, Jv, Jw, Y0, Jx, true_and, lt_int, toInt_b, sub_int]
  refine fin_any (fun n => nofun) ?_
  have e : (if decide (((idxO c.lots o : Nat) : Int) < ((idxO c.lots name : Nat) : Int)) = true then (1 : Int) else 0) = aheadI c name o := by
    unfold aheadI
    by_cases h : idxO c.lots o < idxO c.lots name
    · rw [if_pos h, decide_eq_true (by omega)]; rfl
    · rw [if_neg h, decide_eq_false (by omega)]; rfl
  rw [e]
  exact hT
def barF (c : Cnt) (name : Str) (names : List Str) (pl : List (Nat × Str)) : Bool := decide ((names.map fun o => greatF c name pl - aheadI c name o).sum < hadF c names pl)
def bBarred (φg φh φr : Phi) : Fn Ct :=
  fSeq (fSet 4 (fCall φg (fCons (fVar 0) (fCons (fVar 1) (fCons (fVar 3) (fNil))))))
  (fSeq (fSet 5 (fCall gSum (fCons (fVal (fLc (fSrc (fVar 2)) [6] (gNm 6) (fYes) (fCall φr (fCons (fVar 0) (fCons (fVar 1) (fCons (fVar 4) (fCons (fVar 6) (fNil)))))))) (fNil))))
  (fRet (fBin gGt (fCall φh (fCons (fVar 0) (fCons (fVar 2) (fCons (fVar 3) (fNil))))) (fVar 5))))
def BarredS (φ : Phi) : Prop := ∀ (c : Cnt) (name : Str) (names : List Str) (pl : List (Nat × Str)) (n : Nat) (s : Sto) (T : Dv → Sto → Prop), CntB c → name ∈ c.lots → (∀ x ∈ names, x ∈ c.lots) → names.length ≤ 1000 → s[n]? = some (.dk (plK pl)) → T (.bl (barF c name names pl)) s → OkE nX (φ [encC c, .str name, encS names, .loc n] s) T
theorem barred_spec {φg φh φr : Phi} (hg : GreatForS φg) (hh : HadByS φh) (hr : RoomS φr) : BarredS (fDef 4 7 (bBarred φg φh φr)) := by
  intro c name names pl n s T hc hn hns hnl hs hT
  rw [ok_def]
  refine ⟨rfl, ?_⟩
  unfold bBarred
  simp only [Y1, Qf, Qt, Qu, Qa, Qg, Qv, Qw, Qx, Qy, Qh, Qz, Jy, Qi, Qb, Qj, Qk, Q0, Jz, Q1, Q2, J0, Q3, Q4, J1, Ql, Qm, Qn, Q5, Qo, Q6, Qp, Q7, Q8, J2, Q9, Ja, J3, J4, J5, Jb, J6, J7, Jc, J8, J9, Jd, Je, Ya, Jf, Yb, Jg, Jh, Y8, Yc, Ji, Yd, Ye, Yf, Yg, Yh, Y2, Jj, Qq, Jk, Yi, Jl, Jm, Yj, Y3, Yk, Yl, Y4, Ym, Y5, Yn, Qc, Yo, Jn, Yp, Yq, Y6, Yr, Qd, Jo, Jp, Y7, Ys, Yt, Yu, Yv, Yw, Yx, Jq, Jr, Qr, Js, Yy, Qe, Qs, List.set_cons_zero, List.set_cons_succ, List.map_cons, List.map_nil, List.replicate, List.cons_append, List.nil_append, List.length_cons, List.length_nil, Bool.false_eq_true, eq_self, if_true, if_false, Nat.zero_add, Jt, Yz, Ju, Jv, Jw, Y0, Jx, true_and]
  refine hg c name pl n s _ hc hs ?_
  simp only [Y1, Qf, Qt, Qu, Qa, Qg, Qv, Qw, Qx, Qy, Qh, Qz, Jy, Qi, Qb, Qj, Qk, Q0, Jz, Q1, Q2, J0, Q3, Q4, J1, Ql, Qm, Qn, Q5, Qo, Q6, Qp, Q7, Q8, J2, Q9, Ja, J3, J4, J5, Jb, J6, J7, Jc, J8, J9, Jd, Je, Ya, Jf, Yb, Jg, Jh, Y8, Yc, Ji, Yd, Ye, Yf, Yg, Yh, Y2, Jj, Qq, Jk, Yi, Jl, Jm, Yj, Y3, Yk, Yl, Y4, Ym, Y5, Yn, Qc, Yo, Jn, Yp, Yq, Y6, Yr, Qd, Jo, Jp, Y7, Ys, Yt, Yu, Yv, Yw, Yx, Jq, Jr, Qr, Js, Yy, Qe, Qs, List.set_cons_zero, List.set_cons_succ, List.map_cons, List.map_nil, List.replicate, List.cons_append, List.nil_append, List.length_cons, List.length_nil, Bool.false_eq_true, eq_self, if_true, if_false, Nat.zero_add, Jt, Yz, Ju, Jv, Jw, Y0, Jx, true_and]
  refine ⟨decide_eq_true (by rw [List.length_map]; omega), ?_⟩
  refine ok_pick (xs := names) (enc := Dv.str) (p := fun _ => true) (f := fun o => Dv.int (greatF c name pl - aheadI c name o)) (fun o ho => ?_) ?_
  · simp only [Y1, Qf, Qt, Qu, Qa, Qg, Qv, Qw, Qx, Qy, Qh, Qz, Jy, Qi, Qb, Qj, Qk, Q0, Jz, Q1, Q2, J0, Q3, Q4, J1, Ql, Qm, Qn, Q5, Qo, Q6, Qp, Q7, Q8, J2, Q9, Ja, J3, J4, J5, Jb, J6, J7, Jc, J8, J9, Jd, Je, Ya, Jf, Yb, Jg, Jh, Y8, Yc, Ji, Yd, Ye, Yf, Yg, Yh, Y2, Jj, Qq, Jk, Yi, Jl, Jm, Yj, Y3, Yk, Yl, Y4, Ym, Y5, Yn, Qc, Yo, Jn, Yp, Yq, Y6, Yr, Qd, Jo, Jp, Y7, Ys, Yt, Yu, Yv, Yw, Yx, Jq, Jr, Qr, Js, Yy, Qe, Qs, List.set_cons_zero, List.set_cons_succ, List.map_cons, List.map_nil, List.replicate, List.cons_append, List.nil_append, List.length_cons, List.length_nil, Bool.false_eq_true, eq_self, if_true, if_false, Nat.zero_add, Jt, Yz, Ju, Jv, Jw, Y0, Jx, true_and, wipeZ]
    refine fun _ => ?_
    refine hr c name o _ s _ hn (hns o ho) ?_
    first | trivial | exact ⟨rfl, rfl⟩
  rw [filter_yes, show (names.map fun o => Dv.int (greatF c name pl - aheadI c name o)) = (names.map fun o => greatF c name pl - aheadI c name o).map Dv.int by rw [List.map_map]; rfl]
  simp only [Y1, Qf, Qt, Qu, Qa, Qg, Qv, Qw, Qx, Qy, Qh, Qz, Jy, Qi, Qb, Qj, Qk, Q0, Jz, Q1, Q2, J0, Q3, Q4, J1, Ql, Qm, Qn, Q5, Qo, Q6, Qp, Q7, Q8, J2, Q9, Ja, J3, J4, J5, Jb, J6, J7, Jc, J8, J9, Jd, Je, Ya, Jf, Yb, Jg, Jh, Y8, Yc, Ji, Yd, Ye, Yf, Yg, Yh, Y2, Jj, Qq, Jk, Yi, Jl, Jm, Yj, Y3, Yk, Yl, Y4, Ym, Y5, Yn, Qc, Yo, Jn, Yp, Yq, Y6, Yr, Qd, Jo, Jp, Y7, Ys, Yt, Yu, Yv, Yw, Yx, Jq, Jr, Qr, Js, Yy, Qe, Qs, List.set_cons_zero, List.set_cons_succ, List.map_cons, List.map_nil, List.replicate, List.cons_append, List.nil_append, List.length_cons, List.length_nil, Bool.false_eq_true, eq_self, if_true, if_false, Nat.zero_add, Jt, Yz, Ju, Jv, Jw, Y0, Jx, true_and, sumA_ls]
  refine hh c names pl n s _ hc hs ?_
  simp only [Y1, Qf, Qt, Qu, Qa, Qg, Qv, Qw, Qx, Qy, Qh, Qz, Jy, Qi, Qb, Qj, Qk, Q0, Jz, Q1, Q2, J0, Q3, Q4, J1, Ql, Qm, Qn, Q5, Qo, Q6, Qp, Q7, Q8, J2, Q9, Ja, J3, J4, J5, Jb, J6, J7, Jc, J8, J9, Jd, Je, Ya, Jf, Yb, Jg, Jh, Y8, Yc, Ji, Yd, Ye, Yf, Yg, Yh, Y2, Jj, Qq, Jk, Yi, Jl, Jm, Yj, Y3, Yk, Yl, Y4, Ym, Y5, Yn, Qc, Yo, Jn, Yp, Yq, Y6, Yr, Qd, Jo, Jp, Y7, Ys, Yt, Yu, Yv, Yw, Yx, Jq, Jr, Qr, Js, Yy, Qe, Qs, List.set_cons_zero, List.set_cons_succ, List.map_cons, List.map_nil, List.replicate, List.cons_append, List.nil_append, List.length_cons, List.length_nil, Bool.false_eq_true, eq_self, if_true, if_false, Nat.zero_add, Jt, Yz, Ju, Jv, Jw, Y0, Jx, true_and, gt_int]
  exact fin_any (fun n => nofun) hT
end Z

namespace Z
open PySem PySem.Spec L2

/-! ### rows of names, the first bar -/
def rowStep (acc : List (List Str)) (z : Str) : List (List Str) := acc ++ acc.map fun r => r ++ [z]
def rowsAll (xs : List Str) : List (List Str) := xs.foldl rowStep [[]]
theorem rows_len : ∀ (xs : List Str) (acc : List (List Str)), (xs.foldl rowStep acc).length = acc.length * 2 ^ xs.length
  | [], acc => by simp
  | x :: xs, acc => by
    rw [List.foldl_cons, rows_len xs, rowStep, List.length_append, List.length_map, List.length_cons, Nat.pow_succ]
    have : (acc.length + acc.length) * 2 ^ xs.length = acc.length * (2 ^ xs.length * 2) := by
      rw [Nat.mul_comm (2 ^ xs.length) 2, ← Nat.mul_assoc, Nat.mul_two]
    exact this
theorem rows_mem : ∀ (xs : List Str) (acc : List (List Str)) (P : Str → Prop), (∀ x ∈ xs, P x) → (∀ r ∈ acc, ∀ x ∈ r, P x) → ∀ r ∈ xs.foldl rowStep acc, ∀ x ∈ r, P x
  | [], _, _, _, h => h
  | z :: xs, acc, P, h1, h2 => rows_mem xs (rowStep acc z) P (fun x hx => h1 x (List.mem_cons_of_mem _ hx)) fun r hr => by
    rcases List.mem_append.mp hr with h | h
    · exact h2 r h
    · obtain ⟨q, hq, rfl⟩ := List.mem_map.mp h
      intro x hx
      rcases List.mem_append.mp hx with h | h
      · exact h2 q hq x h
      · rw [List.mem_singleton.mp h]; exact h1 z List.mem_cons_self
theorem row_len : ∀ (xs : List Str) (acc : List (List Str)) (m : Nat), (∀ r ∈ acc, r.length ≤ m) → ∀ r ∈ xs.foldl rowStep acc, r.length ≤ m + xs.length
  | [], _, _, h => fun r hr => by have := h r hr; simpa using this
  | z :: xs, acc, m, h => fun r hr => by
    have := row_len xs (rowStep acc z) (m + 1) (fun r hr => by
      rcases List.mem_append.mp hr with h' | h'
      · have := h r h'; omega
      · obtain ⟨q, hq, rfl⟩ := List.mem_map.mp h'
        have := h q hq
        rw [List.length_append, List.length_singleton]; omega) r hr
    rw [List.length_cons]; omega
def bRowsF : Fn Ct := (fFor (fSrc (fVal (fCallL gSorted (fCons (fVar 0) (fNil))))) (gNm 2) (fSet 1 (fVal (fCatL (fVar 1) (fVal (fLc (fSrc (fVar 1)) [3] (gNm 3) (fYes) (fBin gAdd (fVar 3) (fTup (fCons (fVar 2) (fNil))))))))))
theorem rowsF_spec {b : Fn Ct} (hb : b = bRowsF) {xs : List Str} (hl : xs.length ≤ 6) {v2 : Option Dv} {s : Sto} {R : Ct → Sto → Prop} (hR : ∀ v2, R (.next [some (.ls (xs.map .str)), some (.ls ((rowsAll (srtS xs)).map encS)), v2, none]) s) :
    OkE nX (b [some (.ls (xs.map .str)), some (.ls [.tup []]), v2, none] s) R := by
  subst hb
  unfold bRowsF
  have hsl := srtS_len xs
  simp only [Y1, Qf, Qt, Qu, Qa, Qg, Qv, Qw, Qx, Qy, Qh, Qz, Jy, Qi, Qb, Qj, Qk, Q0, Jz, Q1, Q2, J0, Q3, Q4, J1, Ql, Qm, Qn, Q5, Qo, Q6, Qp, Q7, Q8, J2, Q9, Ja, J3, J4, J5, Jb, J6, J7, Jc, J8, J9, Jd, Je, Ya, Jf, Yb, Jg, Jh, Y8, Yc, Ji, Yd, Ye, Yf, Yg, Yh, Y2, Jj, Qq, Jk, Yi, Jl, Jm, Yj, Y3, Yk, Yl, Y4, Ym, Y5, Yn, Qc, Yo, Jn, Yp, Yq, Y6, Yr, Qd, Jo, Jp, Y7, Ys, Yt, Yu, Yv, Yw, Yx, Jq, Jr, Qr, Js, Yy, Qe, Qs, List.set_cons_zero, List.set_cons_succ, List.map_cons, List.map_nil, List.replicate, List.cons_append, List.nil_append, List.length_cons, List.length_nil, Bool.false_eq_true, eq_self, if_true, if_false, Nat.zero_add, Jt, Yz, Ju, Jv, Jw, Y0, Jx, true_and, sorted_ls]
  refine ok_loop (fun i env s' => ∃ v2, env = [some (.ls (xs.map .str)), some (.ls ((((srtS xs).take i).foldl rowStep [[]]).map encS)), v2, none] ∧ s' = s)
    (fun _ _ _ _ => rfl) (fun i d env s' hd q => ?_) (fun env s' q => ?_) ⟨_, rfl, rfl⟩
  · obtain ⟨v2, rfl, rfl⟩ := q
    rw [List.getElem?_map] at hd
    obtain ⟨z, hz, rfl⟩ := Option.map_eq_some_iff.mp hd
    have hil := (List.getElem?_eq_some_iff.mp hz).1
    have hlen : (((srtS xs).take i).foldl rowStep [[]]).length ≤ 64 := by
      rw [rows_len, List.length_take]
      have : 2 ^ min i (srtS xs).length ≤ 2 ^ 6 := Nat.pow_le_pow_right (by decide) (by omega)
      simp only [List.length_cons, List.length_nil]; omega
    have hrl : ∀ r ∈ ((srtS xs).take i).foldl rowStep [[]], r.length ≤ 6 := fun r hr => by
      have := row_len ((srtS xs).take i) [[]] 0 (fun r hr => by rw [List.mem_singleton.mp hr]; exact Nat.le_refl _) r hr
      rw [List.length_take] at this
      omega
    have hf : ((srtS xs).take (i + 1)).foldl rowStep [[]] = rowStep (((srtS xs).take i).foldl rowStep [[]]) z := by
      rw [take_succ' hz, List.foldl_append]; rfl
    rw [hf]
    generalize ((srtS xs).take i).foldl rowStep [[]] = acc at hlen hrl
    simp only [Y1, Qf, Qt, Qu, Qa, Qg, Qv, Qw, Qx, Qy, Qh, Qz, Jy, Qi, Qb, Qj, Qk, Q0, Jz, Q1, Q2, J0, Q3, Q4, J1, Ql, Qm, Qn, Q5, Qo, Q6, Qp, Q7, Q8, J2, Q9, Ja, J3, J4, J5, Jb, J6, J7, Jc, J8, J9, Jd, Je, Ya, Jf, Yb, Jg, Jh, Y8, Yc, Ji, Yd, Ye, Yf, Yg, Yh, Y2, Jj, Qq, Jk, Yi, Jl, Jm, Yj, Y3, Yk, Yl, Y4, Ym, Y5, Yn, Qc, Yo, Jn, Yp, Yq, Y6, Yr, Qd, Jo, Jp, Y7, Ys, Yt, Yu, Yv, Yw, Yx, Jq, Jr, Qr, Js, Yy, Qe, Qs, List.set_cons_zero, List.set_cons_succ, List.map_cons, List.map_nil, List.replicate, List.cons_append, List.nil_append, List.length_cons, List.length_nil, Bool.false_eq_true, eq_self, if_true, if_false, Nat.zero_add, Jt, Yz, Ju, Jv, Jw, Y0, Jx, true_and, ok_catL, kCat_ap]
    refine ⟨decide_eq_true (by rw [List.length_map]; omega), ?_⟩
    refine ok_pick (xs := acc) (enc := encS) (p := fun _ => true) (f := fun r => encS (r ++ [z])) (fun r hr => ?_) ?_
    · have hr6 := hrl r hr
      have ea : ∀ s : Sto, gAdd (encS r) (.tup [.str z]) s = .ok (encS (r ++ [z])) s := fun s => by
        have := add_tupD (a := r.map Dv.str) (b := [Dv.str z]) (s := s) (by rw [List.length_map]; simp only [List.length_singleton]; omega)
        rw [← List.map_singleton (f := Dv.str), ← List.map_append] at this
        exact this
      simp only [Y1, Qf, Qt, Qu, Qa, Qg, Qv, Qw, Qx, Qy, Qh, Qz, Jy, Qi, Qb, Qj, Qk, Q0, Jz, Q1, Q2, J0, Q3, Q4, J1, Ql, Qm, Qn, Q5, Qo, Q6, Qp, Q7, Q8, J2, Q9, Ja, J3, J4, J5, Jb, J6, J7, Jc, J8, J9, Jd, Je, Ya, Jf, Yb, Jg, Jh, Y8, Yc, Ji, Yd, Ye, Yf, Yg, Yh, Y2, Jj, Qq, Jk, Yi, Jl, Jm, Yj, Y3, Yk, Yl, Y4, Ym, Y5, Yn, Qc, Yo, Jn, Yp, Yq, Y6, Yr, Qd, Jo, Jp, Y7, Ys, Yt, Yu, Yv, Yw, Yx, Jq, Jr, Qr, Js, Yy, Qe, Qs, List.set_cons_zero, List.set_cons_succ, List.map_cons, List.map_nil, List.replicate, List.cons_append, List.nil_append, List.length_cons, List.length_nil, Bool.false_eq_true, eq_self, if_true, if_false, Nat.zero_add, Jt, Yz, Ju, Jv, Jw, Y0, Jx, true_and, wipeZ]
      first
        | (refine fun _ => ⟨rfl, ?_⟩; rw [ea, Y1]; first | exact ⟨rfl, rfl⟩ | trivial)
        | (refine fun _ => ⟨by decide, ?_⟩; rw [ea, Y1]; first | exact ⟨rfl, rfl⟩ | trivial)
    rw [filter_yes]
    simp only [Y1, Qf, Qt, Qu, Qa, Qg, Qv, Qw, Qx, Qy, Qh, Qz, Jy, Qi, Qb, Qj, Qk, Q0, Jz, Q1, Q2, J0, Q3, Q4, J1, Ql, Qm, Qn, Q5, Qo, Q6, Qp, Q7, Q8, J2, Q9, Ja, J3, J4, J5, Jb, J6, J7, Jc, J8, J9, Jd, Je, Ya, Jf, Yb, Jg, Jh, Y8, Yc, Ji, Yd, Ye, Yf, Yg, Yh, Y2, Jj, Qq, Jk, Yi, Jl, Jm, Yj, Y3, Yk, Yl, Y4, Ym, Y5, Yn, Qc, Yo, Jn, Yp, Yq, Y6, Yr, Qd, Jo, Jp, Y7, Ys, Yt, Yu, Yv, Yw, Yx, Jq, Jr, Qr, Js, Yy, Qe, Qs, List.set_cons_zero, List.set_cons_succ, List.map_cons, List.map_nil, List.replicate, List.cons_append, List.nil_append, List.length_cons, List.length_nil, Bool.false_eq_true, eq_self, if_true, if_false, Nat.zero_add, Jt, Yz, Ju, Jv, Jw, Y0, Jx, true_and]
    rw [kCat2_ls]
    refine ⟨decide_eq_true (by rw [List.length_map, List.length_map]; omega), ?_⟩
    simp only [Y1, Qf, Qt, Qu, Qa, Qg, Qv, Qw, Qx, Qy, Qh, Qz, Jy, Qi, Qb, Qj, Qk, Q0, Jz, Q1, Q2, J0, Q3, Q4, J1, Ql, Qm, Qn, Q5, Qo, Q6, Qp, Q7, Q8, J2, Q9, Ja, J3, J4, J5, Jb, J6, J7, Jc, J8, J9, Jd, Je, Ya, Jf, Yb, Jg, Jh, Y8, Yc, Ji, Yd, Ye, Yf, Yg, Yh, Y2, Jj, Qq, Jk, Yi, Jl, Jm, Yj, Y3, Yk, Yl, Y4, Ym, Y5, Yn, Qc, Yo, Jn, Yp, Yq, Y6, Yr, Qd, Jo, Jp, Y7, Ys, Yt, Yu, Yv, Yw, Yx, Jq, Jr, Qr, Js, Yy, Qe, Qs, List.set_cons_zero, List.set_cons_succ, List.map_cons, List.map_nil, List.replicate, List.cons_append, List.nil_append, List.length_cons, List.length_nil, Bool.false_eq_true, eq_self, if_true, if_false, Nat.zero_add, Jt, Yz, Ju, Jv, Jw, Y0, Jx, true_and]
    have em : acc.map encS ++ acc.map (fun r => encS (r ++ [z])) = (rowStep acc z).map encS := by
      rw [rowStep, List.map_append, List.map_map]; rfl
    rw [em]
    first | exact ⟨_, rfl, rfl⟩ | exact ⟨_, rfl, trivial⟩ | exact ⟨_, rfl⟩
  · obtain ⟨v2, rfl, rfl⟩ := q
    rw [List.length_map, List.take_length]
    exact hR _
def rowsQ (xs : List Str) : List (List Str) := (rowsAll (srtS xs)).drop 1
theorem sl_ls1 {ds : List Dv} {s : Sto} : gSl (.ls ds) (some 1) none s = .ok (.ls (ds.drop 1)) s := by
  have h := sl_drop (ds := ds) (k := 1) (s := s)
  show Rs.ok (Dv.ls (cutD ds (some 1) none)) s = _
  have h2 : gSl (.tup ds) (some ((1 : Nat) : Int)) none s = .ok (.tup (cutD ds (some 1) none)) s := rfl
  by_cases hl : 1 ≤ ds.length
  · rw [h (by omega)] at h2
    injection h2 with h3 _
    injection h3 with h4
    rw [← h4]
  · have : ds = [] := List.eq_nil_of_length_eq_zero (by omega)
    subst this
    rfl
def bRowsQ (bf : Fn Ct) : Fn Ct :=
  fSeq (fSet 1 (fVal (fLst (fCons (fTup (fNil)) (fNil)))))
  (fSeq bf
  (fRet (fSl (fVar 1) (fPart (fC (.int 1))) (fNoPart))))
def RowsQS (φ : Phi) : Prop := ∀ (xs : List Str) (s : Sto) (T : Dv → Sto → Prop), xs.length ≤ 6 → T (.ls ((rowsQ xs).map encS)) s → OkE nX (φ [.ls (xs.map .str)] s) T
theorem rowsQ_spec {bf : Fn Ct} (hbf : bf = bRowsF) : RowsQS (fDef 1 4 (bRowsQ bf)) := by
  intro xs s T hl hT
  rw [ok_def]
  refine ⟨rfl, ?_⟩
  unfold bRowsQ
  simp only [Y1, Qf, Qt, Qu, Qa, Qg, Qv, Qw, Qx, Qy, Qh, Qz, Jy, Qi, Qb, Qj, Qk, Q0, Jz, Q1, Q2, J0, Q3, Q4, J1, Ql, Qm, Qn, Q5, Qo, Q6, Qp, Q7, Q8, J2, Q9, Ja, J3, J4, J5, Jb, J6, J7, Jc, J8, J9, Jd, Je, Ya, Jf, Yb, Jg, Jh, Y8, Yc, Ji, Yd, Ye, Yf, Yg, Yh, Y2, Jj, Qq, Jk, Yi, Jl, Jm, Yj, Y3, Yk, Yl, Y4, Ym, Y5, Yn, Qc, Yo, Jn, Yp, Yq, Y6, Yr, Qd, Jo, Jp, Y7, Ys, Yt, Yu, Yv, Yw, Yx, Jq, Jr, Qr, Js, Yy, Qe, Qs, List.set_cons_zero, List.set_cons_succ, List.map_cons, List.map_nil, List.replicate, List.cons_append, List.nil_append, List.length_cons, List.length_nil, Bool.false_eq_true, eq_self, if_true, if_false, Nat.zero_add, Jt, Yz, Ju, Jv, Jw, Y0, Jx, true_and]
  repeat (refine ⟨by decide, ?_⟩)
  refine rowsF_spec hbf hl fun v2 => ?_
  simp only [Y1, Qf, Qt, Qu, Qa, Qg, Qv, Qw, Qx, Qy, Qh, Qz, Jy, Qi, Qb, Qj, Qk, Q0, Jz, Q1, Q2, J0, Q3, Q4, J1, Ql, Qm, Qn, Q5, Qo, Q6, Qp, Q7, Q8, J2, Q9, Ja, J3, J4, J5, Jb, J6, J7, Jc, J8, J9, Jd, Je, Ya, Jf, Yb, Jg, Jh, Y8, Yc, Ji, Yd, Ye, Yf, Yg, Yh, Y2, Jj, Qq, Jk, Yi, Jl, Jm, Yj, Y3, Yk, Yl, Y4, Ym, Y5, Yn, Qc, Yo, Jn, Yp, Yq, Y6, Yr, Qd, Jo, Jp, Y7, Ys, Yt, Yu, Yv, Yw, Yx, Jq, Jr, Qr, Js, Yy, Qe, Qs, List.set_cons_zero, List.set_cons_succ, List.map_cons, List.map_nil, List.replicate, List.cons_append, List.nil_append, List.length_cons, List.length_nil, Bool.false_eq_true, eq_self, if_true, if_false, Nat.zero_add, Jt, Yz, Ju, Jv, Jw, Y0, Jx, true_and, sl_ls1]
  rw [← List.map_drop]
  exact fin_any (fun n => nofun) hT
/-! ### .. of all names but one -/
def rivals (c : Cnt) (name : Str) : List Str := c.lots.filter fun o => !(o == name)
def rowsN (c : Cnt) (name : Str) : List (List Str) := rowsQ (rivals c name)
theorem rowsN_mem {c : Cnt} {name : Str} {r : List Str} (h : r ∈ rowsN c name) : ∀ x ∈ r, x ∈ c.lots := by
  refine rows_mem _ _ (fun x => x ∈ c.lots) (fun x hx => ?_) (fun r hr => ?_) r (List.mem_of_mem_drop h)
  · exact (List.mem_filter.mp ((srtS_perm _).mem_iff.mp hx)).1
  · rw [List.mem_singleton.mp hr]
    intro x hx
    cases hx
theorem rowsN_len {c : Cnt} (hc : CntB c) {name : Str} {r : List Str} (h : r ∈ rowsN c name) : r.length ≤ 1000 := by
  have := row_len (srtS (rivals c name)) [[]] 0 (fun r hr => by rw [List.mem_singleton.mp hr]; exact Nat.le_refl _) r (List.mem_of_mem_drop h)
  have h2 := hc.len6
  have h3 : (rivals c name).length ≤ c.lots.length := List.length_filter_le _ _
  rw [srtS_len] at this
  omega
def barN (c : Cnt) (name : Str) (pl : List (Nat × Str)) : Option (List Str) := (rowsN c name).find? fun r => barF c name r pl
def bBarAt (φr φb : Phi) : Fn Ct :=
  fSeq (fFor (fSrc (fCall φr (fCons (fVal (fLc (fSrc (fBin gIx (fVar 0) (fC (.int 0)))) [4] (gNm 4) (fTest (fBin gNe (fVar 4) (fVar 1))) (fVar 4))) (fNil)))) (gNm 3) (fIfS (fTest (fCall φb (fCons (fVar 0) (fCons (fVar 1) (fCons (fVar 3) (fCons (fVar 2) (fNil))))))) (fRet (fVar 3)) (fNop)))
  (fRet (fC .non))
def BarAtS (φ : Phi) : Prop := ∀ (c : Cnt) (name : Str) (pl : List (Nat × Str)) (n : Nat) (s : Sto) (T : Dv → Sto → Prop), CntB c → name ∈ c.lots → s[n]? = some (.dk (plK pl)) → T (match barN c name pl with | some r => encS r | none => .non) s → OkE nX (φ [encC c, .str name, .loc n] s) T
theorem find_step {α : Type} {p : α → Bool} {xs : List α} {i : Nat} {x : α} (h : xs[i]? = some x) (h0 : ∀ y ∈ xs.take i, p y = false) (hx : p x = true) : xs.find? p = some x := by
  have e : xs = xs.take i ++ x :: xs.drop (i + 1) := by
    have hl := (List.getElem?_eq_some_iff.mp h).1
    have e2 := (List.getElem?_eq_some_iff.mp h).2
    conv => lhs; rw [← List.take_append_drop i xs, List.drop_eq_getElem_cons hl, e2]
  rw [e, List.find?_append]
  have : (xs.take i).find? p = none := List.find?_eq_none.mpr fun y hy => by rw [h0 y hy]; exact Bool.false_ne_true
  rw [this, List.find?_cons, hx]; rfl
theorem barAt_spec {φr φb : Phi} (hr : RowsQS φr) (hb : BarredS φb) : BarAtS (fDef 3 5 (bBarAt φr φb)) := by
  intro c name pl n s T hc hn hs hT
  have l6 := hc.len6
  rw [ok_def]
  refine ⟨rfl, ?_⟩
  unfold bBarAt
  simp only [Y1, Qf, Qt, Qu, Qa, Qg, Qv, Qw, Qx, Qy, Qh, Qz, Jy, Qi, Qb, Qj, Qk, Q0, Jz, Q1, Q2, J0, Q3, Q4, J1, Ql, Qm, Qn, Q5, Qo, Q6, Qp, Q7, Q8, J2, Q9, Ja, J3, J4, J5, Jb, J6, J7, Jc, J8, J9, Jd, Je, Ya, Jf, Yb, Jg, Jh, Y8, Yc, Ji, Yd, Ye, Yf, Yg, Yh, Y2, Jj, Qq, Jk, Yi, Jl, Jm, Yj, Y3, Yk, Yl, Y4, Ym, Y5, Yn, Qc, Yo, Jn, Yp, Yq, Y6, Yr, Qd, Jo, Jp, Y7, Ys, Yt, Yu, Yv, Yw, Yx, Jq, Jr, Qr, Js, Yy, Qe, Qs, List.set_cons_zero, List.set_cons_succ, List.map_cons, List.map_nil, List.replicate, List.cons_append, List.nil_append, List.length_cons, List.length_nil, Bool.false_eq_true, eq_self, if_true, if_false, Nat.zero_add, Jt, Yz, Ju, Jv, Jw, Y0, Jx, true_and, ixC0]
  refine ⟨decide_eq_true (by rw [List.length_map]; omega), ?_⟩
  refine ok_pick (xs := c.lots) (enc := Dv.str) (p := fun o => !(o == name)) (f := Dv.str) (fun o ho => ?_) ?_
  · simp only [Y1, Qf, Qt, Qu, Qa, Qg, Qv, Qw, Qx, Qy, Qh, Qz, Jy, Qi, Qb, Qj, Qk, Q0, Jz, Q1, Q2, J0, Q3, Q4, J1, Ql, Qm, Qn, Q5, Qo, Q6, Qp, Q7, Q8, J2, Q9, Ja, J3, J4, J5, Jb, J6, J7, Jc, J8, J9, Jd, Je, Ya, Jf, Yb, Jg, Jh, Y8, Yc, Ji, Yd, Ye, Yf, Yg, Yh, Y2, Jj, Qq, Jk, Yi, Jl, Jm, Yj, Y3, Yk, Yl, Y4, Ym, Y5, Yn, Qc, Yo, Jn, Yp, Yq, Y6, Yr, Qd, Jo, Jp, Y7, Ys, Yt, Yu, Yv, Yw, Yx, Jq, Jr, Qr, Js, Yy, Qe, Qs, List.set_cons_zero, List.set_cons_succ, List.map_cons, List.map_nil, List.replicate, List.cons_append, List.nil_append, List.length_cons, List.length_nil, Bool.false_eq_true, eq_self, if_true, if_false, Nat.zero_add, Jt, Yz, Ju, Jv, Jw, Y0, Jx, true_and, wipeZ, ne_str]
    all_goals first | trivial | exact fun _ => ⟨rfl, rfl⟩ | exact fun _ => trivial | exact ⟨rfl, fun _ => trivial⟩ | exact fun _ => rfl
  simp only [Y1, Qf, Qt, Qu, Qa, Qg, Qv, Qw, Qx, Qy, Qh, Qz, Jy, Qi, Qb, Qj, Qk, Q0, Jz, Q1, Q2, J0, Q3, Q4, J1, Ql, Qm, Qn, Q5, Qo, Q6, Qp, Q7, Q8, J2, Q9, Ja, J3, J4, J5, Jb, J6, J7, Jc, J8, J9, Jd, Je, Ya, Jf, Yb, Jg, Jh, Y8, Yc, Ji, Yd, Ye, Yf, Yg, Yh, Y2, Jj, Qq, Jk, Yi, Jl, Jm, Yj, Y3, Yk, Yl, Y4, Ym, Y5, Yn, Qc, Yo, Jn, Yp, Yq, Y6, Yr, Qd, Jo, Jp, Y7, Ys, Yt, Yu, Yv, Yw, Yx, Jq, Jr, Qr, Js, Yy, Qe, Qs, List.set_cons_zero, List.set_cons_succ, List.map_cons, List.map_nil, List.replicate, List.cons_append, List.nil_append, List.length_cons, List.length_nil, Bool.false_eq_true, eq_self, if_true, if_false, Nat.zero_add, Jt, Yz, Ju, Jv, Jw, Y0, Jx, true_and]
  refine hr (rivals c name) s _ (Nat.le_trans (List.length_filter_le _ _) l6) ?_
  simp only [Y1, Qf, Qt, Qu, Qa, Qg, Qv, Qw, Qx, Qy, Qh, Qz, Jy, Qi, Qb, Qj, Qk, Q0, Jz, Q1, Q2, J0, Q3, Q4, J1, Ql, Qm, Qn, Q5, Qo, Q6, Qp, Q7, Q8, J2, Q9, Ja, J3, J4, J5, Jb, J6, J7, Jc, J8, J9, Jd, Je, Ya, Jf, Yb, Jg, Jh, Y8, Yc, Ji, Yd, Ye, Yf, Yg, Yh, Y2, Jj, Qq, Jk, Yi, Jl, Jm, Yj, Y3, Yk, Yl, Y4, Ym, Y5, Yn, Qc, Yo, Jn, Yp, Yq, Y6, Yr, Qd, Jo, Jp, Y7, Ys, Yt, Yu, Yv, Yw, Yx, Jq, Jr, Qr, Js, Yy, Qe, Qs, List.set_cons_zero, List.set_cons_succ, List.map_cons, List.map_nil, List.replicate, List.cons_append, List.nil_append, List.length_cons, List.length_nil, Bool.false_eq_true, eq_self, if_true, if_false, Nat.zero_add, Jt, Yz, Ju, Jv, Jw, Y0, Jx, true_and]
  refine ok_loop (fun i env s' => ∃ v3, env = [some (encC c), some (.str name), some (.loc n), v3, none] ∧ s' = s ∧ ∀ y ∈ (rowsN c name).take i, barF c name y pl = false)
    (fun _ _ _ _ => rfl) (fun i d env s' hd q => ?_) (fun env s' q => ?_) ⟨_, rfl, rfl, fun y hy => by simp at hy⟩
  · obtain ⟨v3, rfl, rfl, h0⟩ := q
    rw [List.getElem?_map] at hd
    obtain ⟨r, hr', rfl⟩ := Option.map_eq_some_iff.mp hd
    simp only [Y1, Qf, Qt, Qu, Qa, Qg, Qv, Qw, Qx, Qy, Qh, Qz, Jy, Qi, Qb, Qj, Qk, Q0, Jz, Q1, Q2, J0, Q3, Q4, J1, Ql, Qm, Qn, Q5, Qo, Q6, Qp, Q7, Q8, J2, Q9, Ja, J3, J4, J5, Jb, J6, J7, Jc, J8, J9, Jd, Je, Ya, Jf, Yb, Jg, Jh, Y8, Yc, Ji, Yd, Ye, Yf, Yg, Yh, Y2, Jj, Qq, Jk, Yi, Jl, Jm, Yj, Y3, Yk, Yl, Y4, Ym, Y5, Yn, Qc, Yo, Jn, Yp, Yq, Y6, Yr, Qd, Jo, Jp, Y7, Ys, Yt, Yu, Yv, Yw, Yx, Jq, Jr, Qr, Js, Yy, Qe, Qs, List.set_cons_zero, List.set_cons_succ, List.map_cons, List.map_nil, List.replicate, List.cons_append, List.nil_append, List.length_cons, List.length_nil, Bool.false_eq_true, eq_self, if_true, if_false, Nat.zero_add, Jt, Yz, Ju, Jv, Jw, Y0, Jx, true_and]
    refine hb c name r pl n _ _ hc hn (rowsN_mem (List.mem_of_getElem? hr')) (rowsN_len hc (List.mem_of_getElem? hr')) hs ?_
    cases e : barF c name r pl with
    | true =>
      have hf : barN c name pl = some r := find_step (p := fun r => barF c name r pl) hr' h0 e
      rw [hf] at hT
      simp only [Y1, Qf, Qt, Qu, Qa, Qg, Qv, Qw, Qx, Qy, Qh, Qz, Jy, Qi, Qb, Qj, Qk, Q0, Jz, Q1, Q2, J0, Q3, Q4, J1, Ql, Qm, Qn, Q5, Qo, Q6, Qp, Q7, Q8, J2, Q9, Ja, J3, J4, J5, Jb, J6, J7, Jc, J8, J9, Jd, Je, Ya, Jf, Yb, Jg, Jh, Y8, Yc, Ji, Yd, Ye, Yf, Yg, Yh, Y2, Jj, Qq, Jk, Yi, Jl, Jm, Yj, Y3, Yk, Yl, Y4, Ym, Y5, Yn, Qc, Yo, Jn, Yp, Yq, Y6, Yr, Qd, Jo, Jp, Y7, Ys, Yt, Yu, Yv, Yw, Yx, Jq, Jr, Qr, Js, Yy, Qe, Qs, List.set_cons_zero, List.set_cons_succ, List.map_cons, List.map_nil, List.replicate, List.cons_append, List.nil_append, List.length_cons, List.length_nil, Bool.false_eq_true, eq_self, if_true, if_false, Nat.zero_add, Jt, Yz, Ju, Jv, Jw, Y0, Jx, true_and]
      exact fin_any (fun n => nofun) hT
    | false =>
      simp only [Y1, Qf, Qt, Qu, Qa, Qg, Qv, Qw, Qx, Qy, Qh, Qz, Jy, Qi, Qb, Qj, Qk, Q0, Jz, Q1, Q2, J0, Q3, Q4, J1, Ql, Qm, Qn, Q5, Qo, Q6, Qp, Q7, Q8, J2, Q9, Ja, J3, J4, J5, Jb, J6, J7, Jc, J8, J9, Jd, Je, Ya, Jf, Yb, Jg, Jh, Y8, Yc, Ji, Yd, Ye, Yf, Yg, Yh, Y2, Jj, Qq, Jk, Yi, Jl, Jm, Yj, Y3, Yk, Yl, Y4, Ym, Y5, Yn, Qc, Yo, Jn, Yp, Yq, Y6, Yr, Qd, Jo, Jp, Y7, Ys, Yt, Yu, Yv, Yw, Yx, Jq, Jr, Qr, Js, Yy, Qe, Qs, List.set_cons_zero, List.set_cons_succ, List.map_cons, List.map_nil, List.replicate, List.cons_append, List.nil_append, List.length_cons, List.length_nil, Bool.false_eq_true, eq_self, if_true, if_false, Nat.zero_add, Jt, Yz, Ju, Jv, Jw, Y0, Jx, true_and]
      refine ⟨_, rfl, fun y hy => ?_⟩
      have hr2 : (rowsN c name)[i]? = some r := hr'
      rw [take_succ' hr2] at hy
      rcases List.mem_append.mp hy with h | h
      · exact h0 y h
      · rw [List.mem_singleton.mp h]; exact e
  · obtain ⟨v3, rfl, rfl, h0⟩ := q
    rw [List.length_map] at h0
    have h0 : ∀ y ∈ rowsN c name, barF c name y pl = false := fun y hy => h0 y (by
      have : (rowsN c name).take (rowsQ (rivals c name)).length = rowsN c name := List.take_length
      rw [this]; exact hy)
    have hf : barN c name pl = none := List.find?_eq_none.mpr fun y hy => by rw [h0 y hy]; exact Bool.false_ne_true
    rw [hf] at hT
    simp only [Y1, Qf, Qt, Qu, Qa, Qg, Qv, Qw, Qx, Qy, Qh, Qz, Jy, Qi, Qb, Qj, Qk, Q0, Jz, Q1, Q2, J0, Q3, Q4, J1, Ql, Qm, Qn, Q5, Qo, Q6, Qp, Q7, Q8, J2, Q9, Ja, J3, J4, J5, Jb, J6, J7, Jc, J8, J9, Jd, Je, Ya, Jf, Yb, Jg, Jh, Y8, Yc, Ji, Yd, Ye, Yf, Yg, Yh, Y2, Jj, Qq, Jk, Yi, Jl, Jm, Yj, Y3, Yk, Yl, Y4, Ym, Y5, Yn, Qc, Yo, Jn, Yp, Yq, Y6, Yr, Qd, Jo, Jp, Y7, Ys, Yt, Yu, Yv, Yw, Yx, Jq, Jr, Qr, Js, Yy, Qe, Qs, List.set_cons_zero, List.set_cons_succ, List.map_cons, List.map_nil, List.replicate, List.cons_append, List.nil_append, List.length_cons, List.length_nil, Bool.false_eq_true, eq_self, if_true, if_false, Nat.zero_add, Jt, Yz, Ju, Jv, Jw, Y0, Jx, true_and]
    exact fin_any (fun n => nofun) hT
end Z

namespace Z
open PySem PySem.Spec L2

/-! ### words and numbers of any things, rows of any things -/
structure Thg (d : Dv) : Prop where
  g : gb 30 d = true
  w : wb d ≤ 160000
theorem Thg.okX {d : Dv} (h : Thg d) : Z.okX d = true := gb_okX h.g
theorem Thg.mem {ds : List Dv} {d : Dv} (h : gbs 29 ds = true) (hw : wbs ds ≤ 160000) (hd : d ∈ ds) : gb 29 d = true ∧ wb d ≤ 160000 := ⟨gb_mem h d hd, by have := wb_mem hd; omega⟩
mutual
theorem gb_up : ∀ {n m : Nat} {d : Dv}, gb n d = true → n ≤ m → gb m d = true
  | 0, _, _, h, _ => by simp [gb] at h
  | n + 1, 0, _, _, hm => by omega
  | n + 1, m + 1, .non, _, _ => by simp [gb]
  | n + 1, m + 1, .bl _, _, _ => by simp [gb]
  | n + 1, m + 1, .int _, h, _ => by simpa [gb] using h
  | n + 1, m + 1, .str _, h, _ => by simpa [gb] using h
  | n + 1, m + 1, .tup ds, h, hm => by rw [gb_tup] at h ⊢; exact gbs_up h (by omega)
  | n + 1, m + 1, .ls ds, h, hm => by rw [gb_ls] at h ⊢; exact gbs_up h (by omega)
  | n + 1, m + 1, .loc _, h, _ => by simp [gb] at h
  | n + 1, m + 1, .xn .., h, _ => by simp [gb] at h
theorem gbs_up : ∀ {n m : Nat} {ds : List Dv}, gbs n ds = true → n ≤ m → gbs m ds = true
  | _, _, [], _, _ => by simp [gbs]
  | n, m, d :: r, h, hm => by
    have h : gb n d = true ∧ gbs n r = true := by simpa [gbs] using h
    simp only [gbs, Bool.and_eq_true]
    exact ⟨gb_up h.1 hm, gbs_up h.2 hm⟩
end
theorem Thg.tup {ds : List Dv} (h : Thg (.tup ds)) : gbs 29 ds = true ∧ wbs ds ≤ 160000 ∧ ds.length ≤ 160000 := by
  have h1 := h.g
  have h2 := h.w
  rw [gb_tup] at h1
  rw [wb_tup] at h2
  exact ⟨h1, h2, Nat.le_trans (wbs_len ds) h2⟩
theorem Thg.of {ds : List Dv} (h : gbs 29 ds = true) (hw : wbs ds ≤ 160000) {d : Dv} (hd : d ∈ ds) : Thg d := ⟨gb_up (gb_mem h d hd) (by omega), by have := wb_mem hd; omega⟩
theorem Thg.str {z : Str} (h : Thg (.str z)) : PyData.strOk z = true ∧ z.length ≤ 4096 := gb_str.mp h.g
def isFromD : Dv → Bool
  | .int i => decide (0 ≤ i)
  | _ => false
def ThS (φ : Phi) (p : Dv → Bool) : Prop := ∀ (d : Dv) (s : Sto) (T : Dv → Sto → Prop), Thg d → T (.bl (p d)) s → OkE nX (φ [d] s) T
def bFrom (φn : Phi) : Fn Ct := fRet (fAnd (fCall φn (fCons (fVar 0) (fNil))) (fBin gGe (fVar 0) (fC (.int 0))))
def bFromL : Fn Ct := fRet (fAnd (fIsi "int" (fVar 0)) (fAnd (fNot (fIsi "bool" (fVar 0))) (fBin gGe (fVar 0) (fC (.int 0)))))
def bWordL : Fn Ct :=
  fSeq (fIfS (fOrT (fNotT (fTest (fIsi "str" (fVar 0)))) (fNotT (fTest (fChain gLe gLe (fC (.int 1)) (fCall gLen (fCons (fVar 0) (fNil))) (fC (.int 8)))))) (fRet (fC (.bl false))) (fNop))
  (fRet (fBin gEq (fVal (fLc (fSrcS (fVar 0)) [1] (gNm 1) (fTest (fBin gNotIn (fVar 1) (fC (.str (Str.ofString "abcdefghijklmnopqrstuvwxyz"))))) (fVar 1))) (fVal (fLst (fNil)))))
end Z

namespace Z
open PySem PySem.Spec L2

/-! ### the law's own look: under, barred -/
theorem gb_strs {xs : List Str} (h : ∀ x ∈ xs, PyData.strOk x = true ∧ x.cps.size ≤ 8) : gbs 1 (xs.map .str) = true := gbs_all fun d hd => by
  obtain ⟨x, hx, rfl⟩ := List.mem_map.mp hd
  have := h x hx
  exact gb_str.mpr ⟨this.1, by omega⟩
theorem eqS_nil {xs : List Str} (h : ∀ x ∈ xs, PyData.strOk x = true ∧ x.cps.size ≤ 8) {s : Sto} : gEq (.ls (xs.map .str)) (.ls []) s = .ok (.bl xs.isEmpty) s := by
  rw [eqL_nil (gb_strs h) (by decide), List.isEmpty_map]
theorem filtQ {α : Type} {p q : α → Bool} (h : ∀ x, p x = !q x) : ∀ xs : List α, (xs.filter p).isEmpty = xs.all q
  | [] => rfl
  | x :: xs => by
    rw [List.filter_cons, List.all_cons, h x]
    cases q x with
    | true => simpa using filtQ h xs
    | false => simp
theorem look_mem2 {pl : List (Nat × Str)} {k : Nat} {z : Str} (h : lookP pl k = some z) : ∃ x ∈ pl, x.2 = z := by
  obtain ⟨x, hx, rfl⟩ := Option.map_eq_some_iff.mp h
  exact ⟨x, List.mem_of_find?_eq_some hx, rfl⟩
def PlIn (c : Cnt) (pl : List (Nat × Str)) : Prop := ∀ x ∈ pl, x.2 ∈ c.lots
theorem und_in {c : Cnt} {pl : List (Nat × Str)} (hp : PlIn c pl) {k : Nat} {p : Pil} (h : PilB c.lots p) : ∀ x ∈ undP pl k p, x ∈ c.lots := by
  intro x hx
  unfold undP at hx
  split at hx
  · rename_i z hz
    obtain ⟨y, hy, e⟩ := look_mem2 hz
    rw [List.mem_singleton.mp hx, ← e]
    exact hp y hy
  · rcases List.mem_cons.mp hx with h' | h'
    · rw [h']; exact h.name
    · exact (h.oth x h').1
def bUnderL : Fn Ct := fRet (fIf (fTest (fBin gInK (fVar 2) (fVar 1))) (fTup (fCons (fBin gIx (fVar 1) (fVar 2)) (fNil))) (fBin gAdd (fTup (fCons (fBin gIx (fBin gIx (fBin gIx (fVar 0) (fC (.int 1))) (fVar 2)) (fC (.int 0))) (fNil))) (fBin gIx (fBin gIx (fBin gIx (fVar 0) (fC (.int 1))) (fVar 2)) (fC (.int 3)))))
theorem underL_spec : NamesAtS (fDef 3 3 bUnderL) := by
  intro c pl n k p s T hc hs hp hT
  have hpb := hc.piles p (List.mem_of_getElem? hp)
  have ip : ∀ s : Sto, gIx (.tup (c.piles.map encP)) (.int (k : Nat)) s = .ok (encP p) s := fun s => ix_tupN (by rw [List.getElem?_map, hp]; rfl)
  have i0 : ∀ s : Sto, gIx (encP p) (.int 0) s = .ok (.str p.name) s := fun s => rfl
  have i3 : ∀ s : Sto, gIx (encP p) (.int 3) s = .ok (.tup (p.others.map .str)) s := fun s => rfl
  have ea : ∀ s : Sto, gAdd (.tup [.str p.name]) (.tup (p.others.map .str)) s = .ok (encS (namP p)) s := fun s => by
    have := hpb.noth
    rw [add_tupD (by rw [List.length_map]; simp only [List.length_singleton]; omega)]; rfl
  rw [ok_def]
  refine ⟨rfl, ?_⟩
  unfold bUnderL
  simp only [Y1, Qf, Qt, Qu, Qa, Qg, Qv, Qw, Qx, Qy, Qh, Qz, Jy, Qi, Qb, Qj, Qk, Q0, Jz, Q1, Q2, J0, Q3, Q4, J1, Ql, Qm, Qn, Q5, Qo, Q6, Qp, Q7, Q8, J2, Q9, Ja, J3, J4, J5, Jb, J6, J7, Jc, J8, J9, Jd, Je, Ya, Jf, Yb, Jg, Jh, Y8, Yc, Ji, Yd, Ye, Yf, Yg, Yh, Y2, Jj, Qq, Jk, Yi, Jl, Jm, Yj, Y3, Yk, Yl, Y4, Ym, Y5, Yn, Qc, Yo, Jn, Yp, Yq, Y6, Yr, Qd, Jo, Jp, Y7, Ys, Yt, Yu, Yv, Yw, Yx, Jq, Jr, Qr, Js, Yy, Qe, Qs, List.set_cons_zero, List.set_cons_succ, List.map_cons, List.map_nil, List.replicate, List.cons_append, List.nil_append, List.length_cons, List.length_nil, Bool.false_eq_true, eq_self, if_true, if_false, Nat.zero_add, Jt, Yz, Ju, Jv, Jw, Y0, Jx, true_and, inK_pl hs]
  cases hl : lookP pl k with
  | some z =>
    have hT : T (encS [z]) s := by
      have : undP pl k p = [z] := by simp only [undP, hl]
      rw [← this]; exact hT
    simp only [Y1, Qf, Qt, Qu, Qa, Qg, Qv, Qw, Qx, Qy, Qh, Qz, Jy, Qi, Qb, Qj, Qk, Q0, Jz, Q1, Q2, J0, Q3, Q4, J1, Ql, Qm, Qn, Q5, Qo, Q6, Qp, Q7, Q8, J2, Q9, Ja, J3, J4, J5, Jb, J6, J7, Jc, J8, J9, Jd, Je, Ya, Jf, Yb, Jg, Jh, Y8, Yc, Ji, Yd, Ye, Yf, Yg, Yh, Y2, Jj, Qq, Jk, Yi, Jl, Jm, Yj, Y3, Yk, Yl, Y4, Ym, Y5, Yn, Qc, Yo, Jn, Yp, Yq, Y6, Yr, Qd, Jo, Jp, Y7, Ys, Yt, Yu, Yv, Yw, Yx, Jq, Jr, Qr, Js, Yy, Qe, Qs, List.set_cons_zero, List.set_cons_succ, List.map_cons, List.map_nil, List.replicate, List.cons_append, List.nil_append, List.length_cons, List.length_nil, Bool.false_eq_true, eq_self, if_true, if_false, Nat.zero_add, Jt, Yz, Ju, Jv, Jw, Y0, Jx, true_and, Option.isSome_some, ix_pl hs hl]
    refine ⟨by decide, ?_⟩
    exact fin_any (fun n => nofun) hT
  | none =>
    have hT : T (encS (namP p)) s := by
      have : undP pl k p = namP p := by simp only [undP, hl]
      rw [← this]; exact hT
    simp only [Y1, Qf, Qt, Qu, Qa, Qg, Qv, Qw, Qx, Qy, Qh, Qz, Jy, Qi, Qb, Qj, Qk, Q0, Jz, Q1, Q2, J0, Q3, Q4, J1, Ql, Qm, Qn, Q5, Qo, Q6, Qp, Q7, Q8, J2, Q9, Ja, J3, J4, J5, Jb, J6, J7, Jc, J8, J9, Jd, Je, Ya, Jf, Yb, Jg, Jh, Y8, Yc, Ji, Yd, Ye, Yf, Yg, Yh, Y2, Jj, Qq, Jk, Yi, Jl, Jm, Yj, Y3, Yk, Yl, Y4, Ym, Y5, Yn, Qc, Yo, Jn, Yp, Yq, Y6, Yr, Qd, Jo, Jp, Y7, Ys, Yt, Yu, Yv, Yw, Yx, Jq, Jr, Qr, Js, Yy, Qe, Qs, List.set_cons_zero, List.set_cons_succ, List.map_cons, List.map_nil, List.replicate, List.cons_append, List.nil_append, List.length_cons, List.length_nil, Bool.false_eq_true, eq_self, if_true, if_false, Nat.zero_add, Jt, Yz, Ju, Jv, Jw, Y0, Jx, true_and, Option.isSome_none, ixC1, ip, i0, i3]
    refine ⟨by decide, ?_⟩
    rw [ea, Y1]
    simp only [Y1, Qf, Qt, Qu, Qa, Qg, Qv, Qw, Qx, Qy, Qh, Qz, Jy, Qi, Qb, Qj, Qk, Q0, Jz, Q1, Q2, J0, Q3, Q4, J1, Ql, Qm, Qn, Q5, Qo, Q6, Qp, Q7, Q8, J2, Q9, Ja, J3, J4, J5, Jb, J6, J7, Jc, J8, J9, Jd, Je, Ya, Jf, Yb, Jg, Jh, Y8, Yc, Ji, Yd, Ye, Yf, Yg, Yh, Y2, Jj, Qq, Jk, Yi, Jl, Jm, Yj, Y3, Yk, Yl, Y4, Ym, Y5, Yn, Qc, Yo, Jn, Yp, Yq, Y6, Yr, Qd, Jo, Jp, Y7, Ys, Yt, Yu, Yv, Yw, Yx, Jq, Jr, Qr, Js, Yy, Qe, Qs, List.set_cons_zero, List.set_cons_succ, List.map_cons, List.map_nil, List.replicate, List.cons_append, List.nil_append, List.length_cons, List.length_nil, Bool.false_eq_true, eq_self, if_true, if_false, Nat.zero_add, Jt, Yz, Ju, Jv, Jw, Y0, Jx, true_and]
    exact fin_any (fun n => nofun) hT
def bBrL1 (φu : Phi) : Fn Ct := (fFor (fEnum (fCons (fBin gIx (fVar 0) (fC (.int 1))) (fNil))) (gTp 2 (gsCons (gNm 6) (gsCons (gTp 4 (gsCons (gNm 7) (gsCons (gNm 8) (gsCons (gNm 9) (gsCons (gNm 10) (gsNil)))))) (gsNil)))) (fSeq (fSet 11 (fCall φu (fCons (fVar 0) (fCons (fVar 3) (fCons (fVar 6) (fNil))))))
  (fSeq (fIfS (fTest (fBin gEq (fVal (fLc (fSrc (fVar 11)) [14] (gNm 14) (fTest (fBin gNotIn (fVar 14) (fVar 2))) (fVar 14))) (fVal (fLst (fNil))))) (fSet 4 (fBin gAdd (fVar 4) (fCall (gTwo fun i j => if j > i then j else i) (fCons (fC (.int 0)) (fCons (fBin gSub (fVar 8) (fVar 9)) (fNil)))))) (fNop))
  (fIfS (fTest (fBin gIn (fVar 1) (fVar 11))) (fSet 5 (fBin gAdd (fBin gAdd (fVar 5) (fVar 8)) (fVar 9))) (fNop)))))
def bBrL2 : Fn Ct := (fFor (fSrc (fBin gIx (fVar 0) (fC (.int 2)))) (gNm 12) (fSeq (fSet 4 (fBin gAdd (fVar 4) (fCall gToInt (fCons (fBin gEq (fVal (fLc (fSrc (fVar 12)) [14] (gNm 14) (fTest (fBin gNotIn (fVar 14) (fVar 2))) (fVar 14))) (fVal (fLst (fNil)))) (fNil)))))
  (fSet 5 (fBin gAdd (fVar 5) (fCall gToInt (fCons (fBin gIn (fVar 1) (fVar 12)) (fNil)))))))
def bBrL3 : Fn Ct := (fSeq (fSet 13 (fIndex (fBin gIx (fVar 0) (fC (.int 0))) (fCons (fVar 1) (fNil))))
  (fRet (fBin gGt (fVar 4) (fBin gSub (fBin gMul (fVar 5) (fCall gLen (fCons (fVar 2) (fNil)))) (fCall gLen (fCons (fVal (fLc (fSrc (fVar 2)) [14] (gNm 14) (fTest (fBin gIn (fVar 14) (fSl (fBin gIx (fVar 0) (fC (.int 0))) (fNoPart) (fPart (fVar 13))))) (fVar 14))) (fNil)))))))
def bBrL (b1 b2 b3 : Fn Ct) : Fn Ct :=
  fSeq (fAsg (fTup (fCons (fC (.int 0)) (fCons (fC (.int 0)) (fNil)))) (gTp 2 (gsCons (gNm 4) (gsCons (gNm 5) (gsNil)))))
  (fSeq b1 (fSeq b2 b3))
theorem brL1_spec {φu : Phi} {b : Fn Ct} (hb : b = bBrL1 φu) (hu : NamesAtS φu) {c : Cnt} (hc : CntB c) {name : Str} {names : List Str} {pl : List (Nat × Str)} (hpl : PlIn c pl) {n : Nat} {s : Sto} (hs : s[n]? = some (.dk (plK pl))) {v6 v7 v8 v9 v10 v11 v12 v13 : Option Dv} {R : Ct → Sto → Prop}
    (hR : ∀ v6 v7 v8 v9 v10 v11, R (.next [some (encC c), some (.str name), some (encS names), some (.loc n), some (.int (atS (hAt names pl) c.piles c.piles.length)), some (.int (atS (gAt name pl) c.piles c.piles.length)), v6, v7, v8, v9, v10, v11, v12, v13, none]) s) :
    OkE nX (b [some (encC c), some (.str name), some (encS names), some (.loc n), some (.int 0), some (.int 0), v6, v7, v8, v9, v10, v11, v12, v13, none] s) R := by
  subst hb
  unfold bBrL1
  simp only [Y1, Qf, Qt, Qu, Qa, Qg, Qv, Qw, Qx, Qy, Qh, Qz, Jy, Qi, Qb, Qj, Qk, Q0, Jz, Q1, Q2, J0, Q3, Q4, J1, Ql, Qm, Qn, Q5, Qo, Q6, Qp, Q7, Q8, J2, Q9, Ja, J3, J4, J5, Jb, J6, J7, Jc, J8, J9, Jd, Je, Ya, Jf, Yb, Jg, Jh, Y8, Yc, Ji, Yd, Ye, Yf, Yg, Yh, Y2, Jj, Qq, Jk, Yi, Jl, Jm, Yj, Y3, Yk, Yl, Y4, Ym, Y5, Yn, Qc, Yo, Jn, Yp, Yq, Y6, Yr, Qd, Jo, Jp, Y7, Ys, Yt, Yu, Yv, Yw, Yx, Jq, Jr, Qr, Js, Yy, Qe, Qs, List.set_cons_zero, List.set_cons_succ, List.map_cons, List.map_nil, List.replicate, List.cons_append, List.nil_append, List.length_cons, List.length_nil, Bool.false_eq_true, eq_self, if_true, if_false, Nat.zero_add, Jt, Yz, Ju, Jv, Jw, Y0, Jx, true_and, ok_enum, ixC1]
  refine kEnum_tup ?_
  refine ok_loop (fun i env s' => ∃ v6 v7 v8 v9 v10 v11 : Option Dv, env = [some (encC c), some (.str name), some (encS names), some (.loc n), some (.int (atS (hAt names pl) c.piles i)), some (.int (atS (gAt name pl) c.piles i)), v6, v7, v8, v9, v10, v11, v12, v13, none] ∧ s' = s)
    (fun _ _ _ _ => rfl) (fun i d env s' hd q => ?_) (fun env s' q => ?_) ⟨_, _, _, _, _, _, rfl, rfl⟩
  · obtain ⟨v6, v7, v8, v9, v10, v11, rfl, rfl⟩ := q
    obtain ⟨d1, hd1, rfl⟩ := enumD_get hd
    rw [List.getElem?_map] at hd1
    obtain ⟨p, hp, rfl⟩ := Option.map_eq_some_iff.mp hd1
    have hpb := hc.piles p (List.mem_of_getElem? hp)
    have hin := und_in hpl (k := i) hpb
    have hul := und_len (pl := pl) (k := i) hpb
    have hok : ∀ x ∈ (undP pl i p).filter (fun x => !decide (x ∈ names)), PyData.strOk x = true ∧ x.cps.size ≤ 8 := fun x hx => word_ok (hc.word (hin x (List.mem_filter.mp hx).1))
    rw [atS_succ hp, atS_succ hp]
    unfold encP
    simp only [Y1, Qf, Qt, Qu, Qa, Qg, Qv, Qw, Qx, Qy, Qh, Qz, Jy, Qi, Qb, Qj, Qk, Q0, Jz, Q1, Q2, J0, Q3, Q4, J1, Ql, Qm, Qn, Q5, Qo, Q6, Qp, Q7, Q8, J2, Q9, Ja, J3, J4, J5, Jb, J6, J7, Jc, J8, J9, Jd, Je, Ya, Jf, Yb, Jg, Jh, Y8, Yc, Ji, Yd, Ye, Yf, Yg, Yh, Y2, Jj, Qq, Jk, Yi, Jl, Jm, Yj, Y3, Yk, Yl, Y4, Ym, Y5, Yn, Qc, Yo, Jn, Yp, Yq, Y6, Yr, Qd, Jo, Jp, Y7, Ys, Yt, Yu, Yv, Yw, Yx, Jq, Jr, Qr, Js, Yy, Qe, Qs, List.set_cons_zero, List.set_cons_succ, List.map_cons, List.map_nil, List.replicate, List.cons_append, List.nil_append, List.length_cons, List.length_nil, Bool.false_eq_true, eq_self, if_true, if_false, Nat.zero_add, Jt, Yz, Ju, Jv, Jw, Y0, Jx, true_and]
    refine ⟨rfl, rfl, ?_⟩
    refine hu c pl n i p _ _ hc hs hp ?_
    simp only [Y1, Qf, Qt, Qu, Qa, Qg, Qv, Qw, Qx, Qy, Qh, Qz, Jy, Qi, Qb, Qj, Qk, Q0, Jz, Q1, Q2, J0, Q3, Q4, J1, Ql, Qm, Qn, Q5, Qo, Q6, Qp, Q7, Q8, J2, Q9, Ja, J3, J4, J5, Jb, J6, J7, Jc, J8, J9, Jd, Je, Ya, Jf, Yb, Jg, Jh, Y8, Yc, Ji, Yd, Ye, Yf, Yg, Yh, Y2, Jj, Qq, Jk, Yi, Jl, Jm, Yj, Y3, Yk, Yl, Y4, Ym, Y5, Yn, Qc, Yo, Jn, Yp, Yq, Y6, Yr, Qd, Jo, Jp, Y7, Ys, Yt, Yu, Yv, Yw, Yx, Jq, Jr, Qr, Js, Yy, Qe, Qs, List.set_cons_zero, List.set_cons_succ, List.map_cons, List.map_nil, List.replicate, List.cons_append, List.nil_append, List.length_cons, List.length_nil, Bool.false_eq_true, eq_self, if_true, if_false, Nat.zero_add, Jt, Yz, Ju, Jv, Jw, Y0, Jx, true_and]
    refine ⟨decide_eq_true (by rw [List.length_map]; omega), ?_⟩
    refine ok_pick (xs := undP pl i p) (enc := Dv.str) (p := fun x => !decide (x ∈ names)) (f := Dv.str) (fun x hx => ?_) ?_
    · simp only [Y1, Qf, Qt, Qu, Qa, Qg, Qv, Qw, Qx, Qy, Qh, Qz, Jy, Qi, Qb, Qj, Qk, Q0, Jz, Q1, Q2, J0, Q3, Q4, J1, Ql, Qm, Qn, Q5, Qo, Q6, Qp, Q7, Q8, J2, Q9, Ja, J3, J4, J5, Jb, J6, J7, Jc, J8, J9, Jd, Je, Ya, Jf, Yb, Jg, Jh, Y8, Yc, Ji, Yd, Ye, Yf, Yg, Yh, Y2, Jj, Qq, Jk, Yi, Jl, Jm, Yj, Y3, Yk, Yl, Y4, Ym, Y5, Yn, Qc, Yo, Jn, Yp, Yq, Y6, Yr, Qd, Jo, Jp, Y7, Ys, Yt, Yu, Yv, Yw, Yx, Jq, Jr, Qr, Js, Yy, Qe, Qs, List.set_cons_zero, List.set_cons_succ, List.map_cons, List.map_nil, List.replicate, List.cons_append, List.nil_append, List.length_cons, List.length_nil, Bool.false_eq_true, eq_self, if_true, if_false, Nat.zero_add, Jt, Yz, Ju, Jv, Jw, Y0, Jx, true_and, wipeZ, notin_strs]
      all_goals first | trivial | exact fun _ => ⟨rfl, rfl⟩ | exact fun _ => trivial | exact ⟨rfl, fun _ => trivial⟩ | exact fun _ => rfl
    have hgt : ∀ s : Sto, (gTwo fun i j => if j > i then j else i) [.int 0, .int (p.many - p.slip)] s = .ok (.int (lowP p)) s := fun s => rfl
    simp only [Y1, Qf, Qt, Qu, Qa, Qg, Qv, Qw, Qx, Qy, Qh, Qz, Jy, Qi, Qb, Qj, Qk, Q0, Jz, Q1, Q2, J0, Q3, Q4, J1, Ql, Qm, Qn, Q5, Qo, Q6, Qp, Q7, Q8, J2, Q9, Ja, J3, J4, J5, Jb, J6, J7, Jc, J8, J9, Jd, Je, Ya, Jf, Yb, Jg, Jh, Y8, Yc, Ji, Yd, Ye, Yf, Yg, Yh, Y2, Jj, Qq, Jk, Yi, Jl, Jm, Yj, Y3, Yk, Yl, Y4, Ym, Y5, Yn, Qc, Yo, Jn, Yp, Yq, Y6, Yr, Qd, Jo, Jp, Y7, Ys, Yt, Yu, Yv, Yw, Yx, Jq, Jr, Qr, Js, Yy, Qe, Qs, List.set_cons_zero, List.set_cons_succ, List.map_cons, List.map_nil, List.replicate, List.cons_append, List.nil_append, List.length_cons, List.length_nil, Bool.false_eq_true, eq_self, if_true, if_false, Nat.zero_add, Jt, Yz, Ju, Jv, Jw, Y0, Jx, true_and, eqS_nil hok, filtQ (p := fun x => !decide (x ∈ names)) (q := fun x => decide (x ∈ names)) (fun _ => rfl)]
    try refine ⟨by decide, ?_⟩
    have eg : name ∈ undP pl i p → atS (gAt name pl) c.piles i + gAt name pl i p = atS (gAt name pl) c.piles i + p.many + p.slip := fun hm => by simp only [gAt, if_pos hm]; omega
    have eg0 : ¬ name ∈ undP pl i p → atS (gAt name pl) c.piles i + gAt name pl i p = atS (gAt name pl) c.piles i := fun hm => by simp only [gAt, if_neg hm]; omega
    cases hq : (undP pl i p).all (fun x => decide (x ∈ names)) with
    | true =>
      have eh : atS (hAt names pl) c.piles i + hAt names pl i p = atS (hAt names pl) c.piles i + lowP p := by simp only [hAt, hq, if_true]
      rw [eh]
      simp only [Y1, Qf, Qt, Qu, Qa, Qg, Qv, Qw, Qx, Qy, Qh, Qz, Jy, Qi, Qb, Qj, Qk, Q0, Jz, Q1, Q2, J0, Q3, Q4, J1, Ql, Qm, Qn, Q5, Qo, Q6, Qp, Q7, Q8, J2, Q9, Ja, J3, J4, J5, Jb, J6, J7, Jc, J8, J9, Jd, Je, Ya, Jf, Yb, Jg, Jh, Y8, Yc, Ji, Yd, Ye, Yf, Yg, Yh, Y2, Jj, Qq, Jk, Yi, Jl, Jm, Yj, Y3, Yk, Yl, Y4, Ym, Y5, Yn, Qc, Yo, Jn, Yp, Yq, Y6, Yr, Qd, Jo, Jp, Y7, Ys, Yt, Yu, Yv, Yw, Yx, Jq, Jr, Qr, Js, Yy, Qe, Qs, List.set_cons_zero, List.set_cons_succ, List.map_cons, List.map_nil, List.replicate, List.cons_append, List.nil_append, List.length_cons, List.length_nil, Bool.false_eq_true, eq_self, if_true, if_false, Nat.zero_add, Jt, Yz, Ju, Jv, Jw, Y0, Jx, true_and, sub_int, hgt, add_int, in_strs]
      by_cases hm : name ∈ undP pl i p
      · rw [decide_eq_true hm, eg hm]
        simp only [Y1, Qf, Qt, Qu, Qa, Qg, Qv, Qw, Qx, Qy, Qh, Qz, Jy, Qi, Qb, Qj, Qk, Q0, Jz, Q1, Q2, J0, Q3, Q4, J1, Ql, Qm, Qn, Q5, Qo, Q6, Qp, Q7, Q8, J2, Q9, Ja, J3, J4, J5, Jb, J6, J7, Jc, J8, J9, Jd, Je, Ya, Jf, Yb, Jg, Jh, Y8, Yc, Ji, Yd, Ye, Yf, Yg, Yh, Y2, Jj, Qq, Jk, Yi, Jl, Jm, Yj, Y3, Yk, Yl, Y4, Ym, Y5, Yn, Qc, Yo, Jn, Yp, Yq, Y6, Yr, Qd, Jo, Jp, Y7, Ys, Yt, Yu, Yv, Yw, Yx, Jq, Jr, Qr, Js, Yy, Qe, Qs, List.set_cons_zero, List.set_cons_succ, List.map_cons, List.map_nil, List.replicate, List.cons_append, List.nil_append, List.length_cons, List.length_nil, Bool.false_eq_true, eq_self, if_true, if_false, Nat.zero_add, Jt, Yz, Ju, Jv, Jw, Y0, Jx, true_and, add_int]
        first | exact ⟨_, _, _, _, _, _, rfl, rfl⟩ | exact ⟨_, _, _, _, _, _, rfl, trivial⟩ | exact ⟨_, _, _, _, _, _, rfl⟩
      · rw [decide_eq_false hm, eg0 hm]
        simp only [Y1, Qf, Qt, Qu, Qa, Qg, Qv, Qw, Qx, Qy, Qh, Qz, Jy, Qi, Qb, Qj, Qk, Q0, Jz, Q1, Q2, J0, Q3, Q4, J1, Ql, Qm, Qn, Q5, Qo, Q6, Qp, Q7, Q8, J2, Q9, Ja, J3, J4, J5, Jb, J6, J7, Jc, J8, J9, Jd, Je, Ya, Jf, Yb, Jg, Jh, Y8, Yc, Ji, Yd, Ye, Yf, Yg, Yh, Y2, Jj, Qq, Jk, Yi, Jl, Jm, Yj, Y3, Yk, Yl, Y4, Ym, Y5, Yn, Qc, Yo, Jn, Yp, Yq, Y6, Yr, Qd, Jo, Jp, Y7, Ys, Yt, Yu, Yv, Yw, Yx, Jq, Jr, Qr, Js, Yy, Qe, Qs, List.set_cons_zero, List.set_cons_succ, List.map_cons, List.map_nil, List.replicate, List.cons_append, List.nil_append, List.length_cons, List.length_nil, Bool.false_eq_true, eq_self, if_true, if_false, Nat.zero_add, Jt, Yz, Ju, Jv, Jw, Y0, Jx, true_and]
        first | exact ⟨_, _, _, _, _, _, rfl, rfl⟩ | exact ⟨_, _, _, _, _, _, rfl, trivial⟩ | exact ⟨_, _, _, _, _, _, rfl⟩
    | false =>
      have eh : atS (hAt names pl) c.piles i + hAt names pl i p = atS (hAt names pl) c.piles i := by simp only [hAt, hq, Bool.false_eq_true, if_false]; omega
      rw [eh]
      simp only [Y1, Qf, Qt, Qu, Qa, Qg, Qv, Qw, Qx, Qy, Qh, Qz, Jy, Qi, Qb, Qj, Qk, Q0, Jz, Q1, Q2, J0, Q3, Q4, J1, Ql, Qm, Qn, Q5, Qo, Q6, Qp, Q7, Q8, J2, Q9, Ja, J3, J4, J5, Jb, J6, J7, Jc, J8, J9, Jd, Je, Ya, Jf, Yb, Jg, Jh, Y8, Yc, Ji, Yd, Ye, Yf, Yg, Yh, Y2, Jj, Qq, Jk, Yi, Jl, Jm, Yj, Y3, Yk, Yl, Y4, Ym, Y5, Yn, Qc, Yo, Jn, Yp, Yq, Y6, Yr, Qd, Jo, Jp, Y7, Ys, Yt, Yu, Yv, Yw, Yx, Jq, Jr, Qr, Js, Yy, Qe, Qs, List.set_cons_zero, List.set_cons_succ, List.map_cons, List.map_nil, List.replicate, List.cons_append, List.nil_append, List.length_cons, List.length_nil, Bool.false_eq_true, eq_self, if_true, if_false, Nat.zero_add, Jt, Yz, Ju, Jv, Jw, Y0, Jx, true_and, in_strs]
      by_cases hm : name ∈ undP pl i p
      · rw [decide_eq_true hm, eg hm]
        simp only [Y1, Qf, Qt, Qu, Qa, Qg, Qv, Qw, Qx, Qy, Qh, Qz, Jy, Qi, Qb, Qj, Qk, Q0, Jz, Q1, Q2, J0, Q3, Q4, J1, Ql, Qm, Qn, Q5, Qo, Q6, Qp, Q7, Q8, J2, Q9, Ja, J3, J4, J5, Jb, J6, J7, Jc, J8, J9, Jd, Je, Ya, Jf, Yb, Jg, Jh, Y8, Yc, Ji, Yd, Ye, Yf, Yg, Yh, Y2, Jj, Qq, Jk, Yi, Jl, Jm, Yj, Y3, Yk, Yl, Y4, Ym, Y5, Yn, Qc, Yo, Jn, Yp, Yq, Y6, Yr, Qd, Jo, Jp, Y7, Ys, Yt, Yu, Yv, Yw, Yx, Jq, Jr, Qr, Js, Yy, Qe, Qs, List.set_cons_zero, List.set_cons_succ, List.map_cons, List.map_nil, List.replicate, List.cons_append, List.nil_append, List.length_cons, List.length_nil, Bool.false_eq_true, eq_self, if_true, if_false, Nat.zero_add, Jt, Yz, Ju, Jv, Jw, Y0, Jx, true_and, add_int]
        first | exact ⟨_, _, _, _, _, _, rfl, rfl⟩ | exact ⟨_, _, _, _, _, _, rfl, trivial⟩ | exact ⟨_, _, _, _, _, _, rfl⟩
      · rw [decide_eq_false hm, eg0 hm]
        simp only [Y1, Qf, Qt, Qu, Qa, Qg, Qv, Qw, Qx, Qy, Qh, Qz, Jy, Qi, Qb, Qj, Qk, Q0, Jz, Q1, Q2, J0, Q3, Q4, J1, Ql, Qm, Qn, Q5, Qo, Q6, Qp, Q7, Q8, J2, Q9, Ja, J3, J4, J5, Jb, J6, J7, Jc, J8, J9, Jd, Je, Ya, Jf, Yb, Jg, Jh, Y8, Yc, Ji, Yd, Ye, Yf, Yg, Yh, Y2, Jj, Qq, Jk, Yi, Jl, Jm, Yj, Y3, Yk, Yl, Y4, Ym, Y5, Yn, Qc, Yo, Jn, Yp, Yq, Y6, Yr, Qd, Jo, Jp, Y7, Ys, Yt, Yu, Yv, Yw, Yx, Jq, Jr, Qr, Js, Yy, Qe, Qs, List.set_cons_zero, List.set_cons_succ, List.map_cons, List.map_nil, List.replicate, List.cons_append, List.nil_append, List.length_cons, List.length_nil, Bool.false_eq_true, eq_self, if_true, if_false, Nat.zero_add, Jt, Yz, Ju, Jv, Jw, Y0, Jx, true_and]
        first | exact ⟨_, _, _, _, _, _, rfl, rfl⟩ | exact ⟨_, _, _, _, _, _, rfl, trivial⟩ | exact ⟨_, _, _, _, _, _, rfl⟩
  · obtain ⟨v6, v7, v8, v9, v10, v11, rfl, rfl⟩ := q
    rw [enumD_len, List.length_map]
    exact hR _ _ _ _ _ _
end Z

namespace Z
open PySem PySem.Spec L2

theorem cntH_succ {names : List Str} {ds : List (List Str)} {i : Nat} {d : List Str} (h : ds[i]? = some d) : cntH names (ds.take (i + 1)) = cntH names (ds.take i) + (if d.all (fun x => decide (x ∈ names)) = true then 1 else 0) := by
  unfold cntH
  rw [take_succ' h, List.filter_append, List.length_append, List.filter_cons]
  cases d.all (fun x => decide (x ∈ names)) <;> simp
theorem cntG_succ {name : Str} {ds : List (List Str)} {i : Nat} {d : List Str} (h : ds[i]? = some d) : cntG name (ds.take (i + 1)) = cntG name (ds.take i) + (if decide (name ∈ d) = true then 1 else 0) := by
  unfold cntG
  rw [take_succ' h, List.filter_append, List.length_append, List.filter_cons]
  cases decide (name ∈ d) <;> simp
theorem brL2_spec {b : Fn Ct} (hb : b = bBrL2) {c : Cnt} (hc : CntB c) {name : Str} {names : List Str} {h0 g0 : Int} {s : Sto} {v3 v6 v7 v8 v9 v10 v11 v12 v13 : Option Dv} {R : Ct → Sto → Prop}
    (hR : ∀ v12, R (.next [some (encC c), some (.str name), some (encS names), v3, some (.int (h0 + cntH names c.doubts)), some (.int (g0 + cntG name c.doubts)), v6, v7, v8, v9, v10, v11, v12, v13, none]) s) :
    OkE nX (b [some (encC c), some (.str name), some (encS names), v3, some (.int h0), some (.int g0), v6, v7, v8, v9, v10, v11, v12, v13, none] s) R := by
  subst hb
  unfold bBrL2
  simp only [Y1, Qf, Qt, Qu, Qa, Qg, Qv, Qw, Qx, Qy, Qh, Qz, Jy, Qi, Qb, Qj, Qk, Q0, Jz, Q1, Q2, J0, Q3, Q4, J1, Ql, Qm, Qn, Q5, Qo, Q6, Qp, Q7, Q8, J2, Q9, Ja, J3, J4, J5, Jb, J6, J7, Jc, J8, J9, Jd, Je, Ya, Jf, Yb, Jg, Jh, Y8, Yc, Ji, Yd, Ye, Yf, Yg, Yh, Y2, Jj, Qq, Jk, Yi, Jl, Jm, Yj, Y3, Yk, Yl, Y4, Ym, Y5, Yn, Qc, Yo, Jn, Yp, Yq, Y6, Yr, Qd, Jo, Jp, Y7, Ys, Yt, Yu, Yv, Yw, Yx, Jq, Jr, Qr, Js, Yy, Qe, Qs, List.set_cons_zero, List.set_cons_succ, List.map_cons, List.map_nil, List.replicate, List.cons_append, List.nil_append, List.length_cons, List.length_nil, Bool.false_eq_true, eq_self, if_true, if_false, Nat.zero_add, Jt, Yz, Ju, Jv, Jw, Y0, Jx, true_and, ixC2]
  refine ok_loop (fun i env s' => ∃ v12 : Option Dv, env = [some (encC c), some (.str name), some (encS names), v3, some (.int (h0 + cntH names (c.doubts.take i))), some (.int (g0 + cntG name (c.doubts.take i))), v6, v7, v8, v9, v10, v11, v12, v13, none] ∧ s' = s)
    (fun _ _ _ _ => rfl) (fun i d env s' hd q => ?_) (fun env s' q => ?_) ⟨v12, by simp [cntH, cntG], rfl⟩
  · obtain ⟨v12, rfl, rfl⟩ := q
    rw [List.getElem?_map] at hd
    obtain ⟨d, hdd, rfl⟩ := Option.map_eq_some_iff.mp hd
    clear hd
    have hdb := hc.doubts d (List.mem_of_getElem? hdd)
    have hd6 := hdb.2.1
    have hok : ∀ x ∈ d.filter (fun x => !decide (x ∈ names)), PyData.strOk x = true ∧ x.cps.size ≤ 8 := fun x hx => word_ok (hc.word (hdb.2.2.2 x (List.mem_filter.mp hx).1))
    rw [cntH_succ hdd, cntG_succ hdd]
    simp only [Y1, Qf, Qt, Qu, Qa, Qg, Qv, Qw, Qx, Qy, Qh, Qz, Jy, Qi, Qb, Qj, Qk, Q0, Jz, Q1, Q2, J0, Q3, Q4, J1, Ql, Qm, Qn, Q5, Qo, Q6, Qp, Q7, Q8, J2, Q9, Ja, J3, J4, J5, Jb, J6, J7, Jc, J8, J9, Jd, Je, Ya, Jf, Yb, Jg, Jh, Y8, Yc, Ji, Yd, Ye, Yf, Yg, Yh, Y2, Jj, Qq, Jk, Yi, Jl, Jm, Yj, Y3, Yk, Yl, Y4, Ym, Y5, Yn, Qc, Yo, Jn, Yp, Yq, Y6, Yr, Qd, Jo, Jp, Y7, Ys, Yt, Yu, Yv, Yw, Yx, Jq, Jr, Qr, Js, Yy, Qe, Qs, List.set_cons_zero, List.set_cons_succ, List.map_cons, List.map_nil, List.replicate, List.cons_append, List.nil_append, List.length_cons, List.length_nil, Bool.false_eq_true, eq_self, if_true, if_false, Nat.zero_add, Jt, Yz, Ju, Jv, Jw, Y0, Jx, true_and]
    refine ⟨decide_eq_true (by rw [List.length_map]; omega), ?_⟩
    refine ok_pick (xs := d) (enc := Dv.str) (p := fun x => !decide (x ∈ names)) (f := Dv.str) (fun x hx => ?_) ?_
    · simp only [Y1, Qf, Qt, Qu, Qa, Qg, Qv, Qw, Qx, Qy, Qh, Qz, Jy, Qi, Qb, Qj, Qk, Q0, Jz, Q1, Q2, J0, Q3, Q4, J1, Ql, Qm, Qn, Q5, Qo, Q6, Qp, Q7, Q8, J2, Q9, Ja, J3, J4, J5, Jb, J6, J7, Jc, J8, J9, Jd, Je, Ya, Jf, Yb, Jg, Jh, Y8, Yc, Ji, Yd, Ye, Yf, Yg, Yh, Y2, Jj, Qq, Jk, Yi, Jl, Jm, Yj, Y3, Yk, Yl, Y4, Ym, Y5, Yn, Qc, Yo, Jn, Yp, Yq, Y6, Yr, Qd, Jo, Jp, Y7, Ys, Yt, Yu, Yv, Yw, Yx, Jq, Jr, Qr, Js, Yy, Qe, Qs, List.set_cons_zero, List.set_cons_succ, List.map_cons, List.map_nil, List.replicate, List.cons_append, List.nil_append, List.length_cons, List.length_nil, Bool.false_eq_true, eq_self, if_true, if_false, Nat.zero_add, Jt, Yz, Ju, Jv, Jw, Y0, Jx, true_and, wipeZ, notin_strs]
      all_goals first | trivial | exact fun _ => ⟨rfl, rfl⟩ | exact fun _ => trivial | exact ⟨rfl, fun _ => trivial⟩ | exact fun _ => rfl
    simp only [Y1, Qf, Qt, Qu, Qa, Qg, Qv, Qw, Qx, Qy, Qh, Qz, Jy, Qi, Qb, Qj, Qk, Q0, Jz, Q1, Q2, J0, Q3, Q4, J1, Ql, Qm, Qn, Q5, Qo, Q6, Qp, Q7, Q8, J2, Q9, Ja, J3, J4, J5, Jb, J6, J7, Jc, J8, J9, Jd, Je, Ya, Jf, Yb, Jg, Jh, Y8, Yc, Ji, Yd, Ye, Yf, Yg, Yh, Y2, Jj, Qq, Jk, Yi, Jl, Jm, Yj, Y3, Yk, Yl, Y4, Ym, Y5, Yn, Qc, Yo, Jn, Yp, Yq, Y6, Yr, Qd, Jo, Jp, Y7, Ys, Yt, Yu, Yv, Yw, Yx, Jq, Jr, Qr, Js, Yy, Qe, Qs, List.set_cons_zero, List.set_cons_succ, List.map_cons, List.map_nil, List.replicate, List.cons_append, List.nil_append, List.length_cons, List.length_nil, Bool.false_eq_true, eq_self, if_true, if_false, Nat.zero_add, Jt, Yz, Ju, Jv, Jw, Y0, Jx, true_and, eqS_nil hok, filtQ (p := fun x => !decide (x ∈ names)) (q := fun x => decide (x ∈ names)) (fun _ => rfl)]
    try refine ⟨by decide, ?_⟩
    simp only [Y1, Qf, Qt, Qu, Qa, Qg, Qv, Qw, Qx, Qy, Qh, Qz, Jy, Qi, Qb, Qj, Qk, Q0, Jz, Q1, Q2, J0, Q3, Q4, J1, Ql, Qm, Qn, Q5, Qo, Q6, Qp, Q7, Q8, J2, Q9, Ja, J3, J4, J5, Jb, J6, J7, Jc, J8, J9, Jd, Je, Ya, Jf, Yb, Jg, Jh, Y8, Yc, Ji, Yd, Ye, Yf, Yg, Yh, Y2, Jj, Qq, Jk, Yi, Jl, Jm, Yj, Y3, Yk, Yl, Y4, Ym, Y5, Yn, Qc, Yo, Jn, Yp, Yq, Y6, Yr, Qd, Jo, Jp, Y7, Ys, Yt, Yu, Yv, Yw, Yx, Jq, Jr, Qr, Js, Yy, Qe, Qs, List.set_cons_zero, List.set_cons_succ, List.map_cons, List.map_nil, List.replicate, List.cons_append, List.nil_append, List.length_cons, List.length_nil, Bool.false_eq_true, eq_self, if_true, if_false, Nat.zero_add, Jt, Yz, Ju, Jv, Jw, Y0, Jx, true_and, toInt_b, add_int, in_strs]
    have e1 : h0 + (cntH names (c.doubts.take i) + if d.all (fun x => decide (x ∈ names)) = true then 1 else 0) = h0 + cntH names (c.doubts.take i) + if d.all (fun x => decide (x ∈ names)) = true then 1 else 0 := (Int.add_assoc ..).symm
    have e2 : g0 + (cntG name (c.doubts.take i) + if decide (name ∈ d) = true then 1 else 0) = g0 + cntG name (c.doubts.take i) + if decide (name ∈ d) = true then 1 else 0 := (Int.add_assoc ..).symm
    rw [e1, e2]
    first | exact ⟨_, rfl, rfl⟩ | exact ⟨_, rfl, trivial⟩ | exact ⟨_, rfl⟩
  · obtain ⟨v12, rfl, rfl⟩ := q
    rw [List.length_map, List.take_length]
    exact hR _
theorem idxO_eq {xs : List Str} (hn : xs.Nodup) {o : Str} {j : Nat} (h : xs[j]? = some o) : idxO xs o = j := by
  have hm := List.mem_of_getElem? h
  obtain ⟨_, h2⟩ := index_tupO (s := []) hm
  have l1 := (List.getElem?_eq_some_iff.mp h).1
  have l2 := (List.getElem?_eq_some_iff.mp h2).1
  have e1 := (List.getElem?_eq_some_iff.mp h).2
  have e2 := (List.getElem?_eq_some_iff.mp h2).2
  exact (List.getElem_inj hn).mp (e2.trans e1.symm)
theorem take_idx {xs : List Str} (hn : xs.Nodup) {o : Str} (ho : o ∈ xs) {k : Nat} : o ∈ xs.take k ↔ idxO xs o < k := by
  constructor
  · intro h
    obtain ⟨j, hj⟩ := List.mem_iff_getElem?.mp h
    rw [List.getElem?_take] at hj
    split at hj
    · rename_i hjk
      rw [idxO_eq hn hj]; exact hjk
    · cases hj
  · intro h
    obtain ⟨_, h2⟩ := index_tupO (s := []) ho
    refine List.mem_iff_getElem?.mpr ⟨idxO xs o, ?_⟩
    rw [List.getElem?_take, if_pos h]
    exact h2
theorem sum_ahead {c : Cnt} (hc : CntB c) {name : Str} {g : Int} : ∀ {names : List Str}, (∀ x ∈ names, x ∈ c.lots) →
    (names.map fun o => g - aheadI c name o).sum = g * (names.length : Nat) - ((names.filter fun o => decide (o ∈ c.lots.take (idxO c.lots name))).length : Nat)
  | [], _ => by simp
  | x :: r, h => by
    have hx := h x List.mem_cons_self
    have ih := sum_ahead hc (g := g) (name := name) (names := r) fun y hy => h y (List.mem_cons_of_mem _ hy)
    have hp : g * ((r.length + 1 : Nat) : Int) = g * (r.length : Nat) + g := by
      push_cast
      rw [Int.mul_add, Int.mul_one]
    rw [List.map_cons, List.sum_cons, ih, List.filter_cons, List.length_cons, hp]
    have ht := take_idx hc.nd hx (k := idxO c.lots name)
    unfold aheadI
    by_cases hi : idxO c.lots x < idxO c.lots name
    · rw [if_pos hi, decide_eq_true (ht.mpr hi), if_pos rfl, List.length_cons]
      push_cast
      omega
    · rw [if_neg hi, decide_eq_false (fun q => hi (ht.mp q)), if_neg Bool.false_ne_true]
      omega
theorem brL3_spec {b : Fn Ct} (hb : b = bBrL3) {c : Cnt} (hc : CntB c) {name : Str} (hn : name ∈ c.lots) {names : List Str} (hns : ∀ x ∈ names, x ∈ c.lots) (hnl : names.length ≤ 1000) {h0 g0 : Int} {s : Sto} {v3 v6 v7 v8 v9 v10 v11 v12 v13 : Option Dv} {R : Ct → Sto → Prop}
    (hR : R (.ret (.bl (decide ((names.map fun o => g0 - aheadI c name o).sum < h0)))) s) :
    OkE nX (b [some (encC c), some (.str name), some (encS names), v3, some (.int h0), some (.int g0), v6, v7, v8, v9, v10, v11, v12, v13, none] s) R := by
  subst hb
  unfold bBrL3
  simp only [Y1, Qf, Qt, Qu, Qa, Qg, Qv, Qw, Qx, Qy, Qh, Qz, Jy, Qi, Qb, Qj, Qk, Q0, Jz, Q1, Q2, J0, Q3, Q4, J1, Ql, Qm, Qn, Q5, Qo, Q6, Qp, Q7, Q8, J2, Q9, Ja, J3, J4, J5, Jb, J6, J7, Jc, J8, J9, Jd, Je, Ya, Jf, Yb, Jg, Jh, Y8, Yc, Ji, Yd, Ye, Yf, Yg, Yh, Y2, Jj, Qq, Jk, Yi, Jl, Jm, Yj, Y3, Yk, Yl, Y4, Ym, Y5, Yn, Qc, Yo, Jn, Yp, Yq, Y6, Yr, Qd, Jo, Jp, Y7, Ys, Yt, Yu, Yv, Yw, Yx, Jq, Jr, Qr, Js, Yy, Qe, Qs, List.set_cons_zero, List.set_cons_succ, List.map_cons, List.map_nil, List.replicate, List.cons_append, List.nil_append, List.length_cons, List.length_nil, Bool.false_eq_true, eq_self, if_true, if_false, Nat.zero_add, Jt, Yz, Ju, Jv, Jw, Y0, Jx, true_and]
  refine ok_indexO (xs := c.lots) (z := name) (by show (gIx (encC c) (.int 0) s) = _; exact ixC0) rfl hn ?_
  have em : gMul (.int g0) (.int ((names.length : Nat) : Int)) = fun s : Sto => Rs.ok (.int (g0 * ((names.length : Nat) : Int))) s := by
    funext s
    rw [mul_int]
    have : ((decide (-(2 ^ 64) < g0) && decide (g0 < 2 ^ 64)) || (decide (-(2 ^ 64) < ((names.length : Nat) : Int)) && decide (((names.length : Nat) : Int) < 2 ^ 64))) = true := by
      rw [Bool.or_eq_true]
      right
      rw [decide_eq_true (by omega), decide_eq_true (by omega)]; rfl
    rw [this]; rfl
  have et : ∀ s : Sto, gSl (encS c.lots) none (some ((idxO c.lots name : Nat) : Int)) s = .ok (encS (c.lots.take (idxO c.lots name))) s := fun s => by
    have := sl_take (ds := c.lots.map Dv.str) (k := idxO c.lots name) (s := s)
    rw [← List.map_take] at this
    exact this
  simp only [Y1, Qf, Qt, Qu, Qa, Qg, Qv, Qw, Qx, Qy, Qh, Qz, Jy, Qi, Qb, Qj, Qk, Q0, Jz, Q1, Q2, J0, Q3, Q4, J1, Ql, Qm, Qn, Q5, Qo, Q6, Qp, Q7, Q8, J2, Q9, Ja, J3, J4, J5, Jb, J6, J7, Jc, J8, J9, Jd, Je, Ya, Jf, Yb, Jg, Jh, Y8, Yc, Ji, Yd, Ye, Yf, Yg, Yh, Y2, Jj, Qq, Jk, Yi, Jl, Jm, Yj, Y3, Yk, Yl, Y4, Ym, Y5, Yn, Qc, Yo, Jn, Yp, Yq, Y6, Yr, Qd, Jo, Jp, Y7, Ys, Yt, Yu, Yv, Yw, Yx, Jq, Jr, Qr, Js, Yy, Qe, Qs, List.set_cons_zero, List.set_cons_succ, List.map_cons, List.map_nil, List.replicate, List.cons_append, List.nil_append, List.length_cons, List.length_nil, Bool.false_eq_true, eq_self, if_true, if_false, Nat.zero_add, Jt, Yz, Ju, Jv, Jw, Y0, Jx, true_and, len_encS, em]
  refine ⟨decide_eq_true (by rw [List.length_map]; omega), ?_⟩
  refine ok_pick (xs := names) (enc := Dv.str) (p := fun o => decide (o ∈ c.lots.take (idxO c.lots name))) (f := Dv.str) (fun x hx => ?_) ?_
  · simp only [Y1, Qf, Qt, Qu, Qa, Qg, Qv, Qw, Qx, Qy, Qh, Qz, Jy, Qi, Qb, Qj, Qk, Q0, Jz, Q1, Q2, J0, Q3, Q4, J1, Ql, Qm, Qn, Q5, Qo, Q6, Qp, Q7, Q8, J2, Q9, Ja, J3, J4, J5, Jb, J6, J7, Jc, J8, J9, Jd, Je, Ya, Jf, Yb, Jg, Jh, Y8, Yc, Ji, Yd, Ye, Yf, Yg, Yh, Y2, Jj, Qq, Jk, Yi, Jl, Jm, Yj, Y3, Yk, Yl, Y4, Ym, Y5, Yn, Qc, Yo, Jn, Yp, Yq, Y6, Yr, Qd, Jo, Jp, Y7, Ys, Yt, Yu, Yv, Yw, Yx, Jq, Jr, Qr, Js, Yy, Qe, Qs, List.set_cons_zero, List.set_cons_succ, List.map_cons, List.map_nil, List.replicate, List.cons_append, List.nil_append, List.length_cons, List.length_nil, Bool.false_eq_true, eq_self, if_true, if_false, Nat.zero_add, Jt, Yz, Ju, Jv, Jw, Y0, Jx, true_and, wipeZ, ixC0, et, in_strs]
    all_goals first | trivial | exact fun _ => ⟨rfl, rfl⟩ | exact fun _ => trivial | exact ⟨rfl, fun _ => trivial⟩ | exact fun _ => rfl
  simp only [Y1, Qf, Qt, Qu, Qa, Qg, Qv, Qw, Qx, Qy, Qh, Qz, Jy, Qi, Qb, Qj, Qk, Q0, Jz, Q1, Q2, J0, Q3, Q4, J1, Ql, Qm, Qn, Q5, Qo, Q6, Qp, Q7, Q8, J2, Q9, Ja, J3, J4, J5, Jb, J6, J7, Jc, J8, J9, Jd, Je, Ya, Jf, Yb, Jg, Jh, Y8, Yc, Ji, Yd, Ye, Yf, Yg, Yh, Y2, Jj, Qq, Jk, Yi, Jl, Jm, Yj, Y3, Yk, Yl, Y4, Ym, Y5, Yn, Qc, Yo, Jn, Yp, Yq, Y6, Yr, Qd, Jo, Jp, Y7, Ys, Yt, Yu, Yv, Yw, Yx, Jq, Jr, Qr, Js, Yy, Qe, Qs, List.set_cons_zero, List.set_cons_succ, List.map_cons, List.map_nil, List.replicate, List.cons_append, List.nil_append, List.length_cons, List.length_nil, Bool.false_eq_true, eq_self, if_true, if_false, Nat.zero_add, Jt, Yz, Ju, Jv, Jw, Y0, Jx, true_and, len_ls, List.length_map, sub_int, gt_int]
  rw [← sum_ahead hc hns]
  exact hR
theorem barL_spec {φu : Phi} {b1 b2 b3 : Fn Ct} (h1 : b1 = bBrL1 φu) (h2 : b2 = bBrL2) (h3 : b3 = bBrL3) (hu : NamesAtS φu) : ∀ (c : Cnt) (name : Str) (names : List Str) (pl : List (Nat × Str)) (n : Nat) (s : Sto) (T : Dv → Sto → Prop), CntB c → name ∈ c.lots → (∀ x ∈ names, x ∈ c.lots) → names.length ≤ 1000 → PlIn c pl → s[n]? = some (.dk (plK pl)) → T (.bl (barF c name names pl)) s → OkE nX (fDef 4 15 (bBrL b1 b2 b3) [encC c, .str name, encS names, .loc n] s) T := by
  intro c name names pl n s T hc hn hns hnl hpl hs hT
  rw [ok_def]
  refine ⟨rfl, ?_⟩
  unfold bBrL
  simp only [Y1, Qf, Qt, Qu, Qa, Qg, Qv, Qw, Qx, Qy, Qh, Qz, Jy, Qi, Qb, Qj, Qk, Q0, Jz, Q1, Q2, J0, Q3, Q4, J1, Ql, Qm, Qn, Q5, Qo, Q6, Qp, Q7, Q8, J2, Q9, Ja, J3, J4, J5, Jb, J6, J7, Jc, J8, J9, Jd, Je, Ya, Jf, Yb, Jg, Jh, Y8, Yc, Ji, Yd, Ye, Yf, Yg, Yh, Y2, Jj, Qq, Jk, Yi, Jl, Jm, Yj, Y3, Yk, Yl, Y4, Ym, Y5, Yn, Qc, Yo, Jn, Yp, Yq, Y6, Yr, Qd, Jo, Jp, Y7, Ys, Yt, Yu, Yv, Yw, Yx, Jq, Jr, Qr, Js, Yy, Qe, Qs, List.set_cons_zero, List.set_cons_succ, List.map_cons, List.map_nil, List.replicate, List.cons_append, List.nil_append, List.length_cons, List.length_nil, Bool.false_eq_true, eq_self, if_true, if_false, Nat.zero_add, Jt, Yz, Ju, Jv, Jw, Y0, Jx, true_and]
  repeat (refine ⟨by decide, ?_⟩)
  refine brL1_spec h1 hu hc hpl hs fun v6 v7 v8 v9 v10 v11 => ?_
  simp only [Y1, Qf, Qt, Qu, Qa, Qg, Qv, Qw, Qx, Qy, Qh, Qz, Jy, Qi, Qb, Qj, Qk, Q0, Jz, Q1, Q2, J0, Q3, Q4, J1, Ql, Qm, Qn, Q5, Qo, Q6, Qp, Q7, Q8, J2, Q9, Ja, J3, J4, J5, Jb, J6, J7, Jc, J8, J9, Jd, Je, Ya, Jf, Yb, Jg, Jh, Y8, Yc, Ji, Yd, Ye, Yf, Yg, Yh, Y2, Jj, Qq, Jk, Yi, Jl, Jm, Yj, Y3, Yk, Yl, Y4, Ym, Y5, Yn, Qc, Yo, Jn, Yp, Yq, Y6, Yr, Qd, Jo, Jp, Y7, Ys, Yt, Yu, Yv, Yw, Yx, Jq, Jr, Qr, Js, Yy, Qe, Qs, List.set_cons_zero, List.set_cons_succ, List.map_cons, List.map_nil, List.replicate, List.cons_append, List.nil_append, List.length_cons, List.length_nil, Bool.false_eq_true, eq_self, if_true, if_false, Nat.zero_add, Jt, Yz, Ju, Jv, Jw, Y0, Jx, true_and]
  refine brL2_spec h2 hc fun v12 => ?_
  simp only [Y1, Qf, Qt, Qu, Qa, Qg, Qv, Qw, Qx, Qy, Qh, Qz, Jy, Qi, Qb, Qj, Qk, Q0, Jz, Q1, Q2, J0, Q3, Q4, J1, Ql, Qm, Qn, Q5, Qo, Q6, Qp, Q7, Q8, J2, Q9, Ja, J3, J4, J5, Jb, J6, J7, Jc, J8, J9, Jd, Je, Ya, Jf, Yb, Jg, Jh, Y8, Yc, Ji, Yd, Ye, Yf, Yg, Yh, Y2, Jj, Qq, Jk, Yi, Jl, Jm, Yj, Y3, Yk, Yl, Y4, Ym, Y5, Yn, Qc, Yo, Jn, Yp, Yq, Y6, Yr, Qd, Jo, Jp, Y7, Ys, Yt, Yu, Yv, Yw, Yx, Jq, Jr, Qr, Js, Yy, Qe, Qs, List.set_cons_zero, List.set_cons_succ, List.map_cons, List.map_nil, List.replicate, List.cons_append, List.nil_append, List.length_cons, List.length_nil, Bool.false_eq_true, eq_self, if_true, if_false, Nat.zero_add, Jt, Yz, Ju, Jv, Jw, Y0, Jx, true_and]
  refine brL3_spec h3 hc hn hns hnl ?_
  simp only [Y1, Qf, Qt, Qu, Qa, Qg, Qv, Qw, Qx, Qy, Qh, Qz, Jy, Qi, Qb, Qj, Qk, Q0, Jz, Q1, Q2, J0, Q3, Q4, J1, Ql, Qm, Qn, Q5, Qo, Q6, Qp, Q7, Q8, J2, Q9, Ja, J3, J4, J5, Jb, J6, J7, Jc, J8, J9, Jd, Je, Ya, Jf, Yb, Jg, Jh, Y8, Yc, Ji, Yd, Ye, Yf, Yg, Yh, Y2, Jj, Qq, Jk, Yi, Jl, Jm, Yj, Y3, Yk, Yl, Y4, Ym, Y5, Yn, Qc, Yo, Jn, Yp, Yq, Y6, Yr, Qd, Jo, Jp, Y7, Ys, Yt, Yu, Yv, Yw, Yx, Jq, Jr, Qr, Js, Yy, Qe, Qs, List.set_cons_zero, List.set_cons_succ, List.map_cons, List.map_nil, List.replicate, List.cons_append, List.nil_append, List.length_cons, List.length_nil, Bool.false_eq_true, eq_self, if_true, if_false, Nat.zero_add, Jt, Yz, Ju, Jv, Jw, Y0, Jx, true_and]
  refine fin_any (fun n => nofun) ?_
  have e1 : atS (hAt names pl) c.piles c.piles.length + cntH names c.doubts = hadF c names pl := Int.add_comm ..
  have e2 : atS (gAt name pl) c.piles c.piles.length + cntG name c.doubts = greatF c name pl := Int.add_comm ..
  rw [e1, e2]
  exact hT
end Z

namespace Z
open PySem PySem.Spec L2

/-! ### all ends of a count -/
inductive Two {α β : Type} (R : α → β → Prop) : List α → List β → Prop where
  | nil : Two R [] []
  | cons {a : α} {b : β} {as : List α} {bs : List β} : R a b → Two R as bs → Two R (a :: as) (b :: bs)
theorem Two.len {α β : Type} {R : α → β → Prop} {as : List α} {bs : List β} (h : Two R as bs) : bs.length = as.length := by
  induction h with
  | nil => rfl
  | cons _ _ ih => simp [ih]
theorem Two.get {α β : Type} {R : α → β → Prop} {as : List α} {bs : List β} (h : Two R as bs) : ∀ (i : Nat) (b : β) (a : α), bs[i]? = some b → as[i]? = some a → R a b := by
  induction h with
  | nil => intro i b a h; simp at h
  | cons r _ ih =>
    intro i b a h1 h2
    cases i with
    | zero => cases h1; cases h2; exact r
    | succ i => exact ih i b a h1 h2
theorem Two.map {α β : Type} {R : α → β → Prop} (f : α → β) : ∀ {as : List α}, (∀ a ∈ as, R a (f a)) → Two R as (as.map f)
  | [], _ => .nil
  | a :: r, h => .cons (h a List.mem_cons_self) (Two.map f fun b hb => h b (List.mem_cons_of_mem _ hb))
def rngI (lo hi : Int) : List Int := (List.range (hi - lo).toNat).map fun (i : Nat) => lo + (i : Int)
def stepL (rows : List (List (Str × Int))) (p : Pil) : List (List (Str × Int)) := rows.flatMap fun row => (p.name :: p.others).flatMap fun one => (rngI p.least (p.many + p.slip + 1)).map fun n => row ++ [(one, n)]
def stepD (gifts : List (List Str)) (names : List Str) : List (List Str) := gifts.flatMap fun g => names.map fun one => g ++ [one]
def allRows (ps : List Pil) : List (List (Str × Int)) := ps.foldl stepL [[]]
def allGifts (ds : List (List Str)) : List (List Str) := ds.foldl stepD [[]]
def allEnds (c : Cnt) : List (List (Str × Int) × List Str) := (allRows c.piles).flatMap fun row => (allGifts c.doubts).map fun g => (row, g)
def Lies (p : Pil) (x : Str × Int) : Prop := (x.1 = p.name ∨ x.1 ∈ p.others) ∧ p.least ≤ x.2 ∧ x.2 ≤ p.many + p.slip
/-! ### how many -/
/-! ### a walk over a list where it lies -/
/-- data as a list: by value, or at a place of the store -/
def ListAt (s : Sto) (d : Dv) (ds : List Dv) : Prop := d = .ls ds ∨ ∃ n, d = .loc n ∧ s[n]? = some (.lst ds)
theorem eqDvs_self (ds : List Dv) : eqDvs ds ds = true := eqDvs_rfl ds
theorem ListAt.src {s : Sto} {d : Dv} {ds : List Dv} (h : ListAt s d ds) : ∃ chk : Sto → Bool, (∀ (S : Src → Sto → Prop) (l : Sto), srcK nX S d (s ++ l) = S (ds, chk) (s ++ l)) ∧ ∀ l : Sto, chk (s ++ l) = true := by
  rcases h with rfl | ⟨n, rfl, hn⟩
  · exact ⟨noChk, fun S l => rfl, fun l => rfl⟩
  · have hl := (List.getElem?_eq_some_iff.mp hn).1
    have hg : ∀ l : Sto, (s ++ l)[n]? = some (.lst ds) := fun l => by rw [List.getElem?_append_left hl]; exact hn
    refine ⟨isLst n ds, fun S l => srcK_loc (hg l), fun l => ?_⟩
    unfold isLst
    rw [hg l]
    exact eqDvs_self ds
end Z

namespace Z
open PySem PySem.Spec L2

/-! ### the law's rows, the law's look at all placings -/
def bRowsL (bf : Fn Ct) : Fn Ct :=
  fSeq (fSet 1 (fVal (fLst (fCons (fTup (fNil)) (fNil)))))
  (fSeq bf
  (fRet (fVar 1)))
def RowsLS (φ : Phi) : Prop := ∀ (xs : List Str) (s : Sto) (T : Dv → Sto → Prop), xs.length ≤ 6 → T (.ls ((rowsAll (srtS xs)).map encS)) s → OkE nX (φ [.ls (xs.map .str)] s) T
theorem rowsL_spec {bf : Fn Ct} (hbf : bf = bRowsF) : RowsLS (fDef 1 4 (bRowsL bf)) := by
  intro xs s T hl hT
  rw [ok_def]
  refine ⟨rfl, ?_⟩
  unfold bRowsL
  simp only [Y1, Qf, Qt, Qu, Qa, Qg, Qv, Qw, Qx, Qy, Qh, Qz, Jy, Qi, Qb, Qj, Qk, Q0, Jz, Q1, Q2, J0, Q3, Q4, J1, Ql, Qm, Qn, Q5, Qo, Q6, Qp, Q7, Q8, J2, Q9, Ja, J3, J4, J5, Jb, J6, J7, Jc, J8, J9, Jd, Je, Ya, Jf, Yb, Jg, Jh, Y8, Yc, Ji, Yd, Ye, Yf, Yg, Yh, Y2, Jj, Qq, Jk, Yi, Jl, Jm, Yj, Y3, Yk, Yl, Y4, Ym, Y5, Yn, Qc, Yo, Jn, Yp, Yq, Y6, Yr, Qd, Jo, Jp, Y7, Ys, Yt, Yu, Yv, Yw, Yx, Jq, Jr, Qr, Js, Yy, Qe, Qs, List.set_cons_zero, List.set_cons_succ, List.map_cons, List.map_nil, List.replicate, List.cons_append, List.nil_append, List.length_cons, List.length_nil, Bool.false_eq_true, eq_self, if_true, if_false, Nat.zero_add, Jt, Yz, Ju, Jv, Jw, Y0, Jx, true_and]
  repeat (refine ⟨by decide, ?_⟩)
  refine rowsF_spec hbf hl fun v2 => ?_
  simp only [Y1, Qf, Qt, Qu, Qa, Qg, Qv, Qw, Qx, Qy, Qh, Qz, Jy, Qi, Qb, Qj, Qk, Q0, Jz, Q1, Q2, J0, Q3, Q4, J1, Ql, Qm, Qn, Q5, Qo, Q6, Qp, Q7, Q8, J2, Q9, Ja, J3, J4, J5, Jb, J6, J7, Jc, J8, J9, Jd, Je, Ya, Jf, Yb, Jg, Jh, Y8, Yc, Ji, Yd, Ye, Yf, Yg, Yh, Y2, Jj, Qq, Jk, Yi, Jl, Jm, Yj, Y3, Yk, Yl, Y4, Ym, Y5, Yn, Qc, Yo, Jn, Yp, Yq, Y6, Yr, Qd, Jo, Jp, Y7, Ys, Yt, Yu, Yv, Yw, Yx, Jq, Jr, Qr, Js, Yy, Qe, Qs, List.set_cons_zero, List.set_cons_succ, List.map_cons, List.map_nil, List.replicate, List.cons_append, List.nil_append, List.length_cons, List.length_nil, Bool.false_eq_true, eq_self, if_true, if_false, Nat.zero_add, Jt, Yz, Ju, Jv, Jw, Y0, Jx, true_and]
  exact fin_any (fun n => nofun) hT
/-- placings as dicts in the store -/
def HoldP (s : Sto) (ls : List Dv) (P : List (List (Nat × Str))) : Prop := ls.length = P.length ∧ ∀ (j : Nat) (pl : List (Nat × Str)), P[j]? = some pl → ∃ m : Nat, ls[j]? = some (.loc m) ∧ s[m]? = some (.dk (plK pl))
def LawBarS (φ : Phi) : Prop := ∀ (c : Cnt) (name : Str) (names : List Str) (pl : List (Nat × Str)) (n : Nat) (s : Sto) (T : Dv → Sto → Prop), CntB c → name ∈ c.lots → (∀ x ∈ names, x ∈ c.lots) → names.length ≤ 1000 → PlIn c pl → s[n]? = some (.dk (plK pl)) → T (.bl (barF c name names pl)) s → OkE nX (φ [encC c, .str name, encS names, .loc n] s) T
/-- whether no row of names is barred -/
def noBar (c : Cnt) (name : Str) (pl : List (Nat × Str)) : Bool := !(rowsN c name).any fun r => barF c name r pl
theorem noBar_iff {c : Cnt} {name : Str} {pl : List (Nat × Str)} : noBar c name pl = (barN c name pl).isNone := by
  unfold noBar barN
  cases h : (rowsN c name).find? fun r => barF c name r pl with
  | none =>
    have : ((rowsN c name).any fun r => barF c name r pl) = false := by
      rw [List.any_eq_false]
      intro x hx
      have := List.find?_eq_none.mp h x hx
      simpa using this
    rw [this]; rfl
  | some r =>
    have : ((rowsN c name).any fun r => barF c name r pl) = true := List.any_eq_true.mpr ⟨r, List.mem_of_find?_eq_some h, List.find?_some (p := fun r => barF c name r pl) h⟩
    rw [this]; rfl
def bCanL (φr φb : Phi) : Fn Ct :=
  fSeq (fSet 3 (fSl (fCall φr (fCons (fVal (fLc (fSrc (fBin gIx (fVar 0) (fC (.int 0)))) [5] (gNm 5) (fTest (fBin gNe (fVar 5) (fVar 2))) (fVar 5))) (fNil))) (fPart (fC (.int 1))) (fNoPart)))
  (fSeq (fFor (fSrc (fVar 1)) (gNm 4) (fIfS (fNotT (fTest (fCall gAny (fCons (fVal (fLc (fSrc (fVar 3)) [6] (gNm 6) (fYes) (fCall φb (fCons (fVar 0) (fCons (fVar 2) (fCons (fVar 6) (fCons (fVar 4) (fNil)))))))) (fNil))))) (fRet (fC (.bl true))) (fNop)))
  (fRet (fC (.bl false))))
theorem any_map2 {α : Type} {xs : List α} {f : α → Bool} {s : Sto} : gAny [.ls (xs.map fun x => Dv.bl (f x))] s = .ok (.bl (xs.any f)) s := by
  have h := any_ls (bs := xs.map f) (s := s)
  rw [List.map_map] at h
  rw [show (xs.map fun x => Dv.bl (f x)) = xs.map (Dv.bl ∘ f) from rfl, h, List.any_map]; rfl
theorem rowsN_count {c : Cnt} (hc : CntB c) (name : Str) : (rowsN c name).length ≤ 64 := by
  have h1 := hc.len6
  have h2 : (rivals c name).length ≤ c.lots.length := List.length_filter_le _ _
  unfold rowsN rowsQ rowsAll
  rw [List.length_drop, rows_len, srtS_len]
  have : 2 ^ (rivals c name).length ≤ 2 ^ 6 := Nat.pow_le_pow_right (by decide) (by omega)
  simp only [List.length_cons, List.length_nil]
  omega
theorem canL_spec {φr φb : Phi} (hr : RowsLS φr) (hb : LawBarS φb) : ∀ (c : Cnt) (name : Str) (d1 : Dv) (ls : List Dv) (P : List (List (Nat × Str))) (s : Sto) (T : Dv → Sto → Prop), CntB c → name ∈ c.lots → ListAt s d1 ls → HoldP s ls P → (∀ pl ∈ P, PlIn c pl) → T (.bl (P.any (noBar c name))) s → OkE nX (fDef 3 7 (bCanL φr φb) [encC c, d1, .str name] s) T := by
  intro c name d1 ls P s T hc hn hA hH hP hT
  have l6 := hc.len6
  have hrc := rowsN_count hc name
  obtain ⟨chk, hS, hck⟩ := hA.src
  have hS := fun S => hS S []
  have hck := hck []
  rw [List.append_nil] at hck
  simp only [List.append_nil] at hS
  rw [ok_def]
  refine ⟨rfl, ?_⟩
  unfold bCanL
  simp only [Y1, Qf, Qt, Qu, Qa, Qg, Qv, Qw, Qx, Qy, Qh, Qz, Jy, Qi, Qb, Qj, Qk, Q0, Jz, Q1, Q2, J0, Q3, Q4, J1, Ql, Qm, Qn, Q5, Qo, Q6, Qp, Q7, Q8, J2, Q9, Ja, J3, J4, J5, Jb, J6, J7, Jc, J8, J9, Jd, Je, Ya, Jf, Yb, Jg, Jh, Y8, Yc, Ji, Yd, Ye, Yf, Yg, Yh, Y2, Jj, Qq, Jk, Yi, Jl, Jm, Yj, Y3, Yk, Yl, Y4, Ym, Y5, Yn, Qc, Yo, Jn, Yp, Yq, Y6, Yr, Qd, Jo, Jp, Y7, Ys, Yt, Yu, Yv, Yw, Yx, Jq, Jr, Qr, Js, Yy, Qe, Qs, List.set_cons_zero, List.set_cons_succ, List.map_cons, List.map_nil, List.replicate, List.cons_append, List.nil_append, List.length_cons, List.length_nil, Bool.false_eq_true, eq_self, if_true, if_false, Nat.zero_add, Jt, Yz, Ju, Jv, Jw, Y0, Jx, true_and, ixC0]
  refine ⟨decide_eq_true (by rw [List.length_map]; omega), ?_⟩
  refine ok_pick (xs := c.lots) (enc := Dv.str) (p := fun o => !(o == name)) (f := Dv.str) (fun o ho => ?_) ?_
  · simp only [Y1, Qf, Qt, Qu, Qa, Qg, Qv, Qw, Qx, Qy, Qh, Qz, Jy, Qi, Qb, Qj, Qk, Q0, Jz, Q1, Q2, J0, Q3, Q4, J1, Ql, Qm, Qn, Q5, Qo, Q6, Qp, Q7, Q8, J2, Q9, Ja, J3, J4, J5, Jb, J6, J7, Jc, J8, J9, Jd, Je, Ya, Jf, Yb, Jg, Jh, Y8, Yc, Ji, Yd, Ye, Yf, Yg, Yh, Y2, Jj, Qq, Jk, Yi, Jl, Jm, Yj, Y3, Yk, Yl, Y4, Ym, Y5, Yn, Qc, Yo, Jn, Yp, Yq, Y6, Yr, Qd, Jo, Jp, Y7, Ys, Yt, Yu, Yv, Yw, Yx, Jq, Jr, Qr, Js, Yy, Qe, Qs, List.set_cons_zero, List.set_cons_succ, List.map_cons, List.map_nil, List.replicate, List.cons_append, List.nil_append, List.length_cons, List.length_nil, Bool.false_eq_true, eq_self, if_true, if_false, Nat.zero_add, Jt, Yz, Ju, Jv, Jw, Y0, Jx, true_and, wipeZ, ne_str]
    all_goals first | trivial | exact fun _ => ⟨rfl, rfl⟩ | exact fun _ => trivial | exact ⟨rfl, fun _ => trivial⟩ | exact fun _ => rfl
  simp only [Y1, Qf, Qt, Qu, Qa, Qg, Qv, Qw, Qx, Qy, Qh, Qz, Jy, Qi, Qb, Qj, Qk, Q0, Jz, Q1, Q2, J0, Q3, Q4, J1, Ql, Qm, Qn, Q5, Qo, Q6, Qp, Q7, Q8, J2, Q9, Ja, J3, J4, J5, Jb, J6, J7, Jc, J8, J9, Jd, Je, Ya, Jf, Yb, Jg, Jh, Y8, Yc, Ji, Yd, Ye, Yf, Yg, Yh, Y2, Jj, Qq, Jk, Yi, Jl, Jm, Yj, Y3, Yk, Yl, Y4, Ym, Y5, Yn, Qc, Yo, Jn, Yp, Yq, Y6, Yr, Qd, Jo, Jp, Y7, Ys, Yt, Yu, Yv, Yw, Yx, Jq, Jr, Qr, Js, Yy, Qe, Qs, List.set_cons_zero, List.set_cons_succ, List.map_cons, List.map_nil, List.replicate, List.cons_append, List.nil_append, List.length_cons, List.length_nil, Bool.false_eq_true, eq_self, if_true, if_false, Nat.zero_add, Jt, Yz, Ju, Jv, Jw, Y0, Jx, true_and]
  refine hr (rivals c name) s _ (Nat.le_trans (List.length_filter_le _ _) l6) ?_
  simp only [Y1, Qf, Qt, Qu, Qa, Qg, Qv, Qw, Qx, Qy, Qh, Qz, Jy, Qi, Qb, Qj, Qk, Q0, Jz, Q1, Q2, J0, Q3, Q4, J1, Ql, Qm, Qn, Q5, Qo, Q6, Qp, Q7, Q8, J2, Q9, Ja, J3, J4, J5, Jb, J6, J7, Jc, J8, J9, Jd, Je, Ya, Jf, Yb, Jg, Jh, Y8, Yc, Ji, Yd, Ye, Yf, Yg, Yh, Y2, Jj, Qq, Jk, Yi, Jl, Jm, Yj, Y3, Yk, Yl, Y4, Ym, Y5, Yn, Qc, Yo, Jn, Yp, Yq, Y6, Yr, Qd, Jo, Jp, Y7, Ys, Yt, Yu, Yv, Yw, Yx, Jq, Jr, Qr, Js, Yy, Qe, Qs, List.set_cons_zero, List.set_cons_succ, List.map_cons, List.map_nil, List.replicate, List.cons_append, List.nil_append, List.length_cons, List.length_nil, Bool.false_eq_true, eq_self, if_true, if_false, Nat.zero_add, Jt, Yz, Ju, Jv, Jw, Y0, Jx, true_and, sl_ls1]
  rw [← List.map_drop, show (rowsAll (srtS (rivals c name))).drop 1 = rowsN c name from rfl, hS]
  simp only [Y1, Qf, Qt, Qu, Qa, Qg, Qv, Qw, Qx, Qy, Qh, Qz, Jy, Qi, Qb, Qj, Qk, Q0, Jz, Q1, Q2, J0, Q3, Q4, J1, Ql, Qm, Qn, Q5, Qo, Q6, Qp, Q7, Q8, J2, Q9, Ja, J3, J4, J5, Jb, J6, J7, Jc, J8, J9, Jd, Je, Ya, Jf, Yb, Jg, Jh, Y8, Yc, Ji, Yd, Ye, Yf, Yg, Yh, Y2, Jj, Qq, Jk, Yi, Jl, Jm, Yj, Y3, Yk, Yl, Y4, Ym, Y5, Yn, Qc, Yo, Jn, Yp, Yq, Y6, Yr, Qd, Jo, Jp, Y7, Ys, Yt, Yu, Yv, Yw, Yx, Jq, Jr, Qr, Js, Yy, Qe, Qs, List.set_cons_zero, List.set_cons_succ, List.map_cons, List.map_nil, List.replicate, List.cons_append, List.nil_append, List.length_cons, List.length_nil, Bool.false_eq_true, eq_self, if_true, if_false, Nat.zero_add, Jt, Yz, Ju, Jv, Jw, Y0, Jx, true_and]
  refine ok_loop (fun i env s' => ∃ v4, env = [some (encC c), some d1, some (.str name), some (.ls ((rowsN c name).map encS)), v4, none, none] ∧ s' = s ∧ (P.take i).any (noBar c name) = false)
    (fun _ _ _ q => by obtain ⟨_, _, q, _⟩ := q; rw [q]; exact hck) (fun i d env s' hd q => ?_) (fun env s' q => ?_) ⟨_, rfl, rfl, by simp⟩
  · obtain ⟨v4, rfl, rfl, h0⟩ := q
    have hi := (List.getElem?_eq_some_iff.mp hd).1
    obtain ⟨pl, hpl⟩ : ∃ pl, P[i]? = some pl := ⟨_, List.getElem?_eq_getElem (by rw [← hH.1]; exact hi)⟩
    obtain ⟨m, e1, e2⟩ := hH.2 i pl hpl
    rw [e1] at hd
    cases hd
    have hin := hP pl (List.mem_of_getElem? hpl)
    simp only [Y1, Qf, Qt, Qu, Qa, Qg, Qv, Qw, Qx, Qy, Qh, Qz, Jy, Qi, Qb, Qj, Qk, Q0, Jz, Q1, Q2, J0, Q3, Q4, J1, Ql, Qm, Qn, Q5, Qo, Q6, Qp, Q7, Q8, J2, Q9, Ja, J3, J4, J5, Jb, J6, J7, Jc, J8, J9, Jd, Je, Ya, Jf, Yb, Jg, Jh, Y8, Yc, Ji, Yd, Ye, Yf, Yg, Yh, Y2, Jj, Qq, Jk, Yi, Jl, Jm, Yj, Y3, Yk, Yl, Y4, Ym, Y5, Yn, Qc, Yo, Jn, Yp, Yq, Y6, Yr, Qd, Jo, Jp, Y7, Ys, Yt, Yu, Yv, Yw, Yx, Jq, Jr, Qr, Js, Yy, Qe, Qs, List.set_cons_zero, List.set_cons_succ, List.map_cons, List.map_nil, List.replicate, List.cons_append, List.nil_append, List.length_cons, List.length_nil, Bool.false_eq_true, eq_self, if_true, if_false, Nat.zero_add, Jt, Yz, Ju, Jv, Jw, Y0, Jx, true_and]
    refine ⟨decide_eq_true (by rw [List.length_map]; omega), ?_⟩
    refine ok_pick (xs := rowsN c name) (enc := encS) (p := fun _ => true) (f := fun r => Dv.bl (barF c name r pl)) (fun r hr' => ?_) ?_
    · simp only [Y1, Qf, Qt, Qu, Qa, Qg, Qv, Qw, Qx, Qy, Qh, Qz, Jy, Qi, Qb, Qj, Qk, Q0, Jz, Q1, Q2, J0, Q3, Q4, J1, Ql, Qm, Qn, Q5, Qo, Q6, Qp, Q7, Q8, J2, Q9, Ja, J3, J4, J5, Jb, J6, J7, Jc, J8, J9, Jd, Je, Ya, Jf, Yb, Jg, Jh, Y8, Yc, Ji, Yd, Ye, Yf, Yg, Yh, Y2, Jj, Qq, Jk, Yi, Jl, Jm, Yj, Y3, Yk, Yl, Y4, Ym, Y5, Yn, Qc, Yo, Jn, Yp, Yq, Y6, Yr, Qd, Jo, Jp, Y7, Ys, Yt, Yu, Yv, Yw, Yx, Jq, Jr, Qr, Js, Yy, Qe, Qs, List.set_cons_zero, List.set_cons_succ, List.map_cons, List.map_nil, List.replicate, List.cons_append, List.nil_append, List.length_cons, List.length_nil, Bool.false_eq_true, eq_self, if_true, if_false, Nat.zero_add, Jt, Yz, Ju, Jv, Jw, Y0, Jx, true_and, wipeZ]
      refine fun _ => ?_
      refine hb c name r pl m _ _ hc hn (rowsN_mem hr') (rowsN_len hc hr') hin e2 ?_
      first | trivial | exact ⟨rfl, rfl⟩
    rw [filter_yes]
    simp only [Y1, Qf, Qt, Qu, Qa, Qg, Qv, Qw, Qx, Qy, Qh, Qz, Jy, Qi, Qb, Qj, Qk, Q0, Jz, Q1, Q2, J0, Q3, Q4, J1, Ql, Qm, Qn, Q5, Qo, Q6, Qp, Q7, Q8, J2, Q9, Ja, J3, J4, J5, Jb, J6, J7, Jc, J8, J9, Jd, Je, Ya, Jf, Yb, Jg, Jh, Y8, Yc, Ji, Yd, Ye, Yf, Yg, Yh, Y2, Jj, Qq, Jk, Yi, Jl, Jm, Yj, Y3, Yk, Yl, Y4, Ym, Y5, Yn, Qc, Yo, Jn, Yp, Yq, Y6, Yr, Qd, Jo, Jp, Y7, Ys, Yt, Yu, Yv, Yw, Yx, Jq, Jr, Qr, Js, Yy, Qe, Qs, List.set_cons_zero, List.set_cons_succ, List.map_cons, List.map_nil, List.replicate, List.cons_append, List.nil_append, List.length_cons, List.length_nil, Bool.false_eq_true, eq_self, if_true, if_false, Nat.zero_add, Jt, Yz, Ju, Jv, Jw, Y0, Jx, true_and, any_map2]
    have hno : noBar c name pl = !(rowsN c name).any fun r => barF c name r pl := rfl
    cases ha : (rowsN c name).any fun r => barF c name r pl with
    | true =>
      rw [ha] at hno
      simp only [Y1, Qf, Qt, Qu, Qa, Qg, Qv, Qw, Qx, Qy, Qh, Qz, Jy, Qi, Qb, Qj, Qk, Q0, Jz, Q1, Q2, J0, Q3, Q4, J1, Ql, Qm, Qn, Q5, Qo, Q6, Qp, Q7, Q8, J2, Q9, Ja, J3, J4, J5, Jb, J6, J7, Jc, J8, J9, Jd, Je, Ya, Jf, Yb, Jg, Jh, Y8, Yc, Ji, Yd, Ye, Yf, Yg, Yh, Y2, Jj, Qq, Jk, Yi, Jl, Jm, Yj, Y3, Yk, Yl, Y4, Ym, Y5, Yn, Qc, Yo, Jn, Yp, Yq, Y6, Yr, Qd, Jo, Jp, Y7, Ys, Yt, Yu, Yv, Yw, Yx, Jq, Jr, Qr, Js, Yy, Qe, Qs, List.set_cons_zero, List.set_cons_succ, List.map_cons, List.map_nil, List.replicate, List.cons_append, List.nil_append, List.length_cons, List.length_nil, Bool.false_eq_true, eq_self, if_true, if_false, Nat.zero_add, Jt, Yz, Ju, Jv, Jw, Y0, Jx, true_and, Bool.not_true]
      refine ⟨_, rfl, ?_⟩
      rw [take_succ' hpl, List.any_append, h0]
      simp [hno]
    | false =>
      rw [ha] at hno
      have hA : P.any (noBar c name) = true := List.any_eq_true.mpr ⟨pl, List.mem_of_getElem? hpl, by rw [hno]; rfl⟩
      rw [hA] at hT
      simp only [Y1, Qf, Qt, Qu, Qa, Qg, Qv, Qw, Qx, Qy, Qh, Qz, Jy, Qi, Qb, Qj, Qk, Q0, Jz, Q1, Q2, J0, Q3, Q4, J1, Ql, Qm, Qn, Q5, Qo, Q6, Qp, Q7, Q8, J2, Q9, Ja, J3, J4, J5, Jb, J6, J7, Jc, J8, J9, Jd, Je, Ya, Jf, Yb, Jg, Jh, Y8, Yc, Ji, Yd, Ye, Yf, Yg, Yh, Y2, Jj, Qq, Jk, Yi, Jl, Jm, Yj, Y3, Yk, Yl, Y4, Ym, Y5, Yn, Qc, Yo, Jn, Yp, Yq, Y6, Yr, Qd, Jo, Jp, Y7, Ys, Yt, Yu, Yv, Yw, Yx, Jq, Jr, Qr, Js, Yy, Qe, Qs, List.set_cons_zero, List.set_cons_succ, List.map_cons, List.map_nil, List.replicate, List.cons_append, List.nil_append, List.length_cons, List.length_nil, Bool.false_eq_true, eq_self, if_true, if_false, Nat.zero_add, Jt, Yz, Ju, Jv, Jw, Y0, Jx, true_and, Bool.not_false]
      exact fin_any (fun n => nofun) hT
  · obtain ⟨v4, rfl, rfl, h0⟩ := q
    rw [hH.1, List.take_length] at h0
    rw [h0] at hT
    simp only [Y1, Qf, Qt, Qu, Qa, Qg, Qv, Qw, Qx, Qy, Qh, Qz, Jy, Qi, Qb, Qj, Qk, Q0, Jz, Q1, Q2, J0, Q3, Q4, J1, Ql, Qm, Qn, Q5, Qo, Q6, Qp, Q7, Q8, J2, Q9, Ja, J3, J4, J5, Jb, J6, J7, Jc, J8, J9, Jd, Je, Ya, Jf, Yb, Jg, Jh, Y8, Yc, Ji, Yd, Ye, Yf, Yg, Yh, Y2, Jj, Qq, Jk, Yi, Jl, Jm, Yj, Y3, Yk, Yl, Y4, Ym, Y5, Yn, Qc, Yo, Jn, Yp, Yq, Y6, Yr, Qd, Jo, Jp, Y7, Ys, Yt, Yu, Yv, Yw, Yx, Jq, Jr, Qr, Js, Yy, Qe, Qs, List.set_cons_zero, List.set_cons_succ, List.map_cons, List.map_nil, List.replicate, List.cons_append, List.nil_append, List.length_cons, List.length_nil, Bool.false_eq_true, eq_self, if_true, if_false, Nat.zero_add, Jt, Yz, Ju, Jv, Jw, Y0, Jx, true_and]
    exact fin_any (fun n => nofun) hT
end Z

namespace Z
open PySem PySem.Spec L2

/-! ### all placings, as the law lays them -/
theorem put_pl {pl : List (Nat × Str)} {k n : Nat} {z : Str} {s : Sto} (hs : s[n]? = some (.dk (plK pl))) (hl : pl.length < 16777216) (h : lookP pl k = none) : gPut (.loc n) (.int (k : Nat)) (.str z) s = .ok () (s.set n (.dk (plK (pl ++ [(k, z)])))) := by
  show (match s[n]? with | some (.lst ds) => _ | some (.dk kvs) => (match keyD (.int (k : Nat)) with | some k => Rs.iff (decide (kvs.length < 16777216)) (.ok () (s.set n (.dk (putD kvs k (.str z))))) | none => .bad) | _ => .bad) = _
  rw [hs]
  show Rs.iff (decide ((plK pl).length < 16777216)) (Rs.ok () (s.set n (.dk (putD (plK pl) (.inl ((k : Nat) : Int)) (.str z))))) = _
  have e : putD (plK pl) (.inl ((k : Nat) : Int)) (.str z) = plK (pl ++ [(k, z)]) := by
    unfold putD
    rw [plK_any, h]
    simp [plK]
  rw [decide_eq_true (by unfold plK; rw [List.length_map]; exact hl), e]; rfl
theorem dictC_pl {pl : List (Nat × Str)} {n : Nat} {s : Sto} (hs : s[n]? = some (.dk (plK pl))) : gDictC [.loc n] s = .ok (.loc s.length) (s ++ [Ob.dk (plK pl)]) := by
  show (match s[n]? with | some (.dk kvs) => Rs.ok (Dv.loc s.length) (s ++ [Ob.dk kvs]) | _ => .bad) = _
  rw [hs]
def locsL (b m : Nat) : List Dv := (List.range m).map fun j : Nat => Dv.loc (b + 1 + j)
theorem locsL_succ {b m : Nat} : locsL b (m + 1) = locsL b m ++ [.loc (b + 1 + m)] := by
  unfold locsL
  rw [List.range_succ, List.map_append]; rfl
def dkP (pl : List (Nat × Str)) : Ob := .dk (plK pl)
def stP (b : Sto) (out : List (List (Nat × Str))) : Sto := b ++ .lst (locsL b.length out.length) :: out.map dkP
theorem stP_hold {b : Sto} {out : List (List (Nat × Str))} : HoldP (stP b out) (locsL b.length out.length) out := by
  refine ⟨by unfold locsL; rw [List.length_map, List.length_range], fun j pl hj => ?_⟩
  have hjl := (List.getElem?_eq_some_iff.mp hj).1
  refine ⟨b.length + 1 + j, ?_, ?_⟩
  · unfold locsL
    rw [List.getElem?_map, List.getElem?_range hjl]; rfl
  · unfold stP
    rw [List.getElem?_append_right (by omega), show b.length + 1 + j - b.length = j + 1 by omega, List.getElem?_cons_succ, List.getElem?_map, hj]; rfl
theorem stP_len {b : Sto} {out : List (List (Nat × Str))} : (stP b out).length = b.length + 1 + out.length := by
  unfold stP
  rw [List.length_append, List.length_cons, List.length_map]; omega
theorem stP_old {b : Sto} {out : List (List (Nat × Str))} {m : Nat} {o : Ob} (h : b[m]? = some o) : (stP b out)[m]? = some o := by
  unfold stP
  rw [List.getElem?_append_left (List.getElem?_eq_some_iff.mp h).1]; exact h
def keysLt (i : Nat) (pl : List (Nat × Str)) : Prop := ∀ x ∈ pl, x.1 < i
theorem keys_look {i : Nat} {pl : List (Nat × Str)} (h : keysLt i pl) : lookP pl i = none := by
  unfold lookP
  rw [List.find?_eq_none.mpr fun x hx => by
    have := h x hx
    simp; omega]
  rfl
def bPlaceIn : Fn Ct := (fSeq (fSet 10 (fCall gDictC (fCons (fVar 8) (fNil))))
  (fSeq (fPut (fVar 10) (fVar 2) (fVar 9))
  (fDrop (fMt isL gAppend (fVar 7) (fCons (fVar 10) (fNil))))))
theorem placeIn_spec {b : Fn Ct} (hb : b = bPlaceIn) {B : Sto} {out : List (List (Nat × Str))} (hol : out.length ≤ 100000) {m k : Nat} {pl : List (Nat × Str)} (hm : B[m]? = some (.dk (plK pl))) (hpl : pl.length ≤ 1000) (hk : lookP pl k = none) {z : Str} {v0 v1 v3 v4 v5 v6 v10 : Option Dv} {R : Ct → Sto → Prop}
    (hR : ∀ v10, R (.next [v0, v1, some (.int (k : Nat)), v3, v4, v5, v6, some (.loc B.length), some (.loc m), some (.str z), v10]) (stP B (out ++ [pl ++ [(k, z)]]))) :
    OkE nX (b [v0, v1, some (.int (k : Nat)), v3, v4, v5, v6, some (.loc B.length), some (.loc m), some (.str z), v10] (stP B out)) R := by
  subst hb
  unfold bPlaceIn
  have hnew : (stP B out ++ [Ob.dk (plK pl)])[(stP B out).length]? = some (.dk (plK pl)) := bs_get
  have hset : (stP B out ++ [Ob.dk (plK pl)]).set (stP B out).length (.dk (plK (pl ++ [(k, z)]))) = stP B out ++ [Ob.dk (plK (pl ++ [(k, z)]))] := bs_set
  have hL : (stP B out ++ [Ob.dk (plK (pl ++ [(k, z)]))])[B.length]? = some (.lst (locsL B.length out.length)) := by
    unfold stP
    rw [List.append_assoc]
    exact bs_get
  have hS : (stP B out ++ [Ob.dk (plK (pl ++ [(k, z)]))]).set B.length (.lst (locsL B.length out.length ++ [.loc (stP B out).length])) = stP B (out ++ [pl ++ [(k, z)]]) := by
    rw [stP_len]
    unfold stP
    rw [List.append_assoc, List.cons_append, bs_set, List.length_append, List.length_singleton, locsL_succ, List.map_append]
    rfl
  have hlen : (locsL B.length out.length).length = out.length := by unfold locsL; rw [List.length_map, List.length_range]
  simp only [Y1, Qf, Qt, Qu, Qa, Qg, Qv, Qw, Qx, Qy, Qh, Qz, Jy, Qi, Qb, Qj, Qk, Q0, Jz, Q1, Q2, J0, Q3, Q4, J1, Ql, Qm, Qn, Q5, Qo, Q6, Qp, Q7, Q8, J2, Q9, Ja, J3, J4, J5, Jb, J6, J7, Jc, J8, J9, Jd, Je, Ya, Jf, Yb, Jg, Jh, Y8, Yc, Ji, Yd, Ye, Yf, Yg, Yh, Y2, Jj, Qq, Jk, Yi, Jl, Jm, Yj, Y3, Yk, Yl, Y4, Ym, Y5, Yn, Qc, Yo, Jn, Yp, Yq, Y6, Yr, Qd, Jo, Jp, Y7, Ys, Yt, Yu, Yv, Yw, Yx, Jq, Jr, Qr, Js, Yy, Qe, Qs, List.set_cons_zero, List.set_cons_succ, List.map_cons, List.map_nil, List.replicate, List.cons_append, List.nil_append, List.length_cons, List.length_nil, Bool.false_eq_true, eq_self, if_true, if_false, Nat.zero_add, Jt, Yz, Ju, Jv, Jw, Y0, Jx, true_and, dictC_pl (stP_old hm), put_pl hnew (show pl.length < 16777216 by omega) hk, hset]
  refine ⟨isL_loc hL, ?_⟩
  rw [append_loc hL (by omega), Y1, hS]
  simp only [Y1, Qf, Qt, Qu, Qa, Qg, Qv, Qw, Qx, Qy, Qh, Qz, Jy, Qi, Qb, Qj, Qk, Q0, Jz, Q1, Q2, J0, Q3, Q4, J1, Ql, Qm, Qn, Q5, Qo, Q6, Qp, Q7, Q8, J2, Q9, Ja, J3, J4, J5, Jb, J6, J7, Jc, J8, J9, Jd, Je, Ya, Jf, Yb, Jg, Jh, Y8, Yc, Ji, Yd, Ye, Yf, Yg, Yh, Y2, Jj, Qq, Jk, Yi, Jl, Jm, Yj, Y3, Yk, Yl, Y4, Ym, Y5, Yn, Qc, Yo, Jn, Yp, Yq, Y6, Yr, Qd, Jo, Jp, Y7, Ys, Yt, Yu, Yv, Yw, Yx, Jq, Jr, Qr, Js, Yy, Qe, Qs, List.set_cons_zero, List.set_cons_succ, List.map_cons, List.map_nil, List.replicate, List.cons_append, List.nil_append, List.length_cons, List.length_nil, Bool.false_eq_true, eq_self, if_true, if_false, Nat.zero_add, Jt, Yz, Ju, Jv, Jw, Y0, Jx, true_and]
  exact hR _
end Z

namespace Z
open PySem PySem.Spec L2

theorem neT_strs {xs : List Str} (h : ∀ x ∈ xs, PyData.strOk x = true ∧ x.cps.size ≤ 8) {s : Sto} : gNe (encS xs) (.tup []) s = .ok (.bl (!xs.isEmpty)) s := by
  show (gEq (.tup (xs.map .str)) (.tup []) s).bind _ = _
  rw [eqT_nil (gb_strs h) (by decide), List.isEmpty_map]; rfl
def bPlaceFor (bi : Fn Ct) : Fn Ct := (fFor (fSrc (fVar 1)) (gNm 8) (fFor (fSrc (fIf (fTest (fBin gNe (fVar 6) (fTup (fNil)))) (fBin gAdd (fTup (fCons (fVar 3) (fNil))) (fVar 6)) (fTup (fNil)))) (gNm 9) bi))
def plsOf (P : List (List (Nat × Str))) (k : Nat) (ns : List Str) : List (List (Nat × Str)) := P.flatMap fun pl => ns.map fun z => pl ++ [(k, z)]
theorem plsOf_succ {P : List (List (Nat × Str))} {k : Nat} {ns : List Str} {i : Nat} {pl : List (Nat × Str)} (h : P[i]? = some pl) : plsOf (P.take (i + 1)) k ns = plsOf (P.take i) k ns ++ ns.map fun z => pl ++ [(k, z)] := by
  unfold plsOf
  rw [take_succ' h, List.flatMap_append]
  simp
theorem plsOf_len {P : List (List (Nat × Str))} {k : Nat} {ns : List Str} : (plsOf P k ns).length = P.length * ns.length := by
  unfold plsOf
  induction P with
  | nil => simp
  | cons p P ih =>
    rw [List.flatMap_cons, List.length_append, ih, List.length_map, List.length_cons, Nat.add_mul, Nat.one_mul, Nat.add_comm]
/-- the names under which a pile is placed: none where it has no others -/
def ownsP (p : Pil) : List Str := if p.others.isEmpty = true then [] else namP p
theorem placeFor_spec {b bi : Fn Ct} (hb : b = bPlaceFor bi) (hbi : bi = bPlaceIn) {c : Cnt} (hc : CntB c) {p : Pil} (hpb : PilB c.lots p) {B : Sto} {d1 : Dv} {ls : List Dv} {P : List (List (Nat × Str))} {k : Nat} (hA : ListAt B d1 ls) (hH : HoldP B ls P) (hPl : P.length ≤ 30000) (hkeys : ∀ pl ∈ P, keysLt k pl ∧ pl.length ≤ 100) {v0 v4 v5 v8 v9 v10 : Option Dv} {R : Ct → Sto → Prop}
    (hR : ∀ v8 v9 v10, R (.next [v0, some d1, some (.int (k : Nat)), some (.str p.name), v4, v5, some (encS p.others), some (.loc B.length), v8, v9, v10]) (stP B (plsOf P k (ownsP p)))) :
    OkE nX (b [v0, some d1, some (.int (k : Nat)), some (.str p.name), v4, v5, some (encS p.others), some (.loc B.length), v8, v9, v10] (B ++ [.lst []])) R := by
  subst hb
  have hno := hpb.noth
  have hok : ∀ x ∈ p.others, PyData.strOk x = true ∧ x.cps.size ≤ 8 := fun x hx => word_ok (hc.word (hpb.oth x hx).1)
  have hown : (ownsP p).length ≤ 3 := by
    unfold ownsP
    split
    · simp
    · unfold namP; rw [List.length_cons]; omega
  obtain ⟨chk, hS, hck⟩ := hA.src
  have hst0 : B ++ [Ob.lst []] = stP B [] := rfl
  have hSt : ∀ out, ∃ l, stP B out = B ++ l := fun out => ⟨_, rfl⟩
  unfold bPlaceFor
  simp only [Y1, Qf, Qt, Qu, Qa, Qg, Qv, Qw, Qx, Qy, Qh, Qz, Jy, Qi, Qb, Qj, Qk, Q0, Jz, Q1, Q2, J0, Q3, Q4, J1, Ql, Qm, Qn, Q5, Qo, Q6, Qp, Q7, Q8, J2, Q9, Ja, J3, J4, J5, Jb, J6, J7, Jc, J8, J9, Jd, Je, Ya, Jf, Yb, Jg, Jh, Y8, Yc, Ji, Yd, Ye, Yf, Yg, Yh, Y2, Jj, Qq, Jk, Yi, Jl, Jm, Yj, Y3, Yk, Yl, Y4, Ym, Y5, Yn, Qc, Yo, Jn, Yp, Yq, Y6, Yr, Qd, Jo, Jp, Y7, Ys, Yt, Yu, Yv, Yw, Yx, Jq, Jr, Qr, Js, Yy, Qe, Qs, List.set_cons_zero, List.set_cons_succ, List.map_cons, List.map_nil, List.replicate, List.cons_append, List.nil_append, List.length_cons, List.length_nil, Bool.false_eq_true, eq_self, if_true, if_false, Nat.zero_add, Jt, Yz, Ju, Jv, Jw, Y0, Jx, true_and]
  rw [hS]
  simp only [Y1, Qf, Qt, Qu, Qa, Qg, Qv, Qw, Qx, Qy, Qh, Qz, Jy, Qi, Qb, Qj, Qk, Q0, Jz, Q1, Q2, J0, Q3, Q4, J1, Ql, Qm, Qn, Q5, Qo, Q6, Qp, Q7, Q8, J2, Q9, Ja, J3, J4, J5, Jb, J6, J7, Jc, J8, J9, Jd, Je, Ya, Jf, Yb, Jg, Jh, Y8, Yc, Ji, Yd, Ye, Yf, Yg, Yh, Y2, Jj, Qq, Jk, Yi, Jl, Jm, Yj, Y3, Yk, Yl, Y4, Ym, Y5, Yn, Qc, Yo, Jn, Yp, Yq, Y6, Yr, Qd, Jo, Jp, Y7, Ys, Yt, Yu, Yv, Yw, Yx, Jq, Jr, Qr, Js, Yy, Qe, Qs, List.set_cons_zero, List.set_cons_succ, List.map_cons, List.map_nil, List.replicate, List.cons_append, List.nil_append, List.length_cons, List.length_nil, Bool.false_eq_true, eq_self, if_true, if_false, Nat.zero_add, Jt, Yz, Ju, Jv, Jw, Y0, Jx, true_and]
  refine ok_loop (fun i env s' => ∃ v8 v9 v10, env = [v0, some d1, some (.int (k : Nat)), some (.str p.name), v4, v5, some (encS p.others), some (.loc B.length), v8, v9, v10] ∧ s' = stP B (plsOf (P.take i) k (ownsP p)))
    (fun _ _ _ q => by obtain ⟨_, _, _, _, q⟩ := q; rw [q]; exact hck _) (fun i d env s' hd q => ?_) (fun env s' q => ?_) ⟨_, _, _, rfl, rfl⟩
  · obtain ⟨v8, v9, v10, rfl, rfl⟩ := q
    have hi := (List.getElem?_eq_some_iff.mp hd).1
    obtain ⟨pl, hpl⟩ : ∃ pl, P[i]? = some pl := ⟨_, List.getElem?_eq_getElem (by rw [← hH.1]; exact hi)⟩
    obtain ⟨m, e1, e2⟩ := hH.2 i pl hpl
    rw [e1] at hd
    cases hd
    obtain ⟨hk1, hk2⟩ := hkeys pl (List.mem_of_getElem? hpl)
    have hsm : (plsOf (P.take i) k (ownsP p)).length ≤ 90000 := by
      rw [plsOf_len, List.length_take]
      have : min i P.length * (ownsP p).length ≤ 30000 * 3 := Nat.mul_le_mul (by omega) hown
      omega
    rw [plsOf_succ hpl]
    generalize plsOf (P.take i) k (ownsP p) = out at hsm
    have loop : OkE nX (loopZ noChk (gNm 9) bi ((ownsP p).map .str) [v0, some d1, some (.int (k : Nat)), some (.str p.name), v4, v5, some (encS p.others), some (.loc B.length), some (.loc m), v9, v10] (stP B out)) (fun c s2 => ∃ v9 v10, c = .next [v0, some d1, some (.int (k : Nat)), some (.str p.name), v4, v5, some (encS p.others), some (.loc B.length), some (.loc m), v9, v10] ∧ s2 = stP B (out ++ (ownsP p).map fun z => pl ++ [(k, z)])) := by
      refine ok_loop (fun j env s' => ∃ v9 v10, env = [v0, some d1, some (.int (k : Nat)), some (.str p.name), v4, v5, some (encS p.others), some (.loc B.length), some (.loc m), v9, v10] ∧ s' = stP B (out ++ ((ownsP p).take j).map fun z => pl ++ [(k, z)]))
        (fun _ _ _ _ => rfl) (fun j d env s' hd q => ?_) (fun env s' q => ?_) ⟨_, _, rfl, by simp⟩
      · obtain ⟨v9, v10, rfl, rfl⟩ := q
        have hj := (List.getElem?_eq_some_iff.mp hd).1
        rw [List.length_map] at hj
        rw [List.getElem?_map] at hd
        obtain ⟨z, hz, rfl⟩ := Option.map_eq_some_iff.mp hd
        rw [take_succ' hz, List.map_append, ← List.append_assoc, List.map_singleton]
        simp only [Y1, Qf, Qt, Qu, Qa, Qg, Qv, Qw, Qx, Qy, Qh, Qz, Jy, Qi, Qb, Qj, Qk, Q0, Jz, Q1, Q2, J0, Q3, Q4, J1, Ql, Qm, Qn, Q5, Qo, Q6, Qp, Q7, Q8, J2, Q9, Ja, J3, J4, J5, Jb, J6, J7, Jc, J8, J9, Jd, Je, Ya, Jf, Yb, Jg, Jh, Y8, Yc, Ji, Yd, Ye, Yf, Yg, Yh, Y2, Jj, Qq, Jk, Yi, Jl, Jm, Yj, Y3, Yk, Yl, Y4, Ym, Y5, Yn, Qc, Yo, Jn, Yp, Yq, Y6, Yr, Qd, Jo, Jp, Y7, Ys, Yt, Yu, Yv, Yw, Yx, Jq, Jr, Qr, Js, Yy, Qe, Qs, List.set_cons_zero, List.set_cons_succ, List.map_cons, List.map_nil, List.replicate, List.cons_append, List.nil_append, List.length_cons, List.length_nil, Bool.false_eq_true, eq_self, if_true, if_false, Nat.zero_add, Jt, Yz, Ju, Jv, Jw, Y0, Jx, true_and]
        refine placeIn_spec hbi (by rw [List.length_append, List.length_map, List.length_take]; omega) e2 (by omega) (keys_look hk1) fun v10 => ?_
        exact ⟨_, _, rfl, rfl⟩
      · obtain ⟨v9, v10, rfl, rfl⟩ := q
        rw [List.length_map, List.take_length]
        exact ⟨_, _, rfl, rfl⟩
    have fin : ∀ c s2, (∃ v9 v10, c = Ct.next [v0, some d1, some (.int (k : Nat)), some (.str p.name), v4, v5, some (encS p.others), some (.loc B.length), some (.loc m), v9, v10] ∧ s2 = stP B (out ++ (ownsP p).map fun z => pl ++ [(k, z)])) → (match c with
      | .next e => ∃ v8 v9 v10, e = [v0, some d1, some (.int (k : Nat)), some (.str p.name), v4, v5, some (encS p.others), some (.loc B.length), v8, v9, v10] ∧ s2 = stP B (out ++ (ownsP p).map fun z => pl ++ [(k, z)])
      | .cont e => ∃ v8 v9 v10, e = [v0, some d1, some (.int (k : Nat)), some (.str p.name), v4, v5, some (encS p.others), some (.loc B.length), v8, v9, v10] ∧ s2 = stP B (out ++ (ownsP p).map fun z => pl ++ [(k, z)])
      | .brk e => R (.next e) s2
      | .ret r => R (.ret r) s2) := by
      rintro c s2 ⟨v9, v10, rfl, rfl⟩
      exact ⟨_, _, _, rfl, rfl⟩
    simp only [Y1, Qf, Qt, Qu, Qa, Qg, Qv, Qw, Qx, Qy, Qh, Qz, Jy, Qi, Qb, Qj, Qk, Q0, Jz, Q1, Q2, J0, Q3, Q4, J1, Ql, Qm, Qn, Q5, Qo, Q6, Qp, Q7, Q8, J2, Q9, Ja, J3, J4, J5, Jb, J6, J7, Jc, J8, J9, Jd, Je, Ya, Jf, Yb, Jg, Jh, Y8, Yc, Ji, Yd, Ye, Yf, Yg, Yh, Y2, Jj, Qq, Jk, Yi, Jl, Jm, Yj, Y3, Yk, Yl, Y4, Ym, Y5, Yn, Qc, Yo, Jn, Yp, Yq, Y6, Yr, Qd, Jo, Jp, Y7, Ys, Yt, Yu, Yv, Yw, Yx, Jq, Jr, Qr, Js, Yy, Qe, Qs, List.set_cons_zero, List.set_cons_succ, List.map_cons, List.map_nil, List.replicate, List.cons_append, List.nil_append, List.length_cons, List.length_nil, Bool.false_eq_true, eq_self, if_true, if_false, Nat.zero_add, Jt, Yz, Ju, Jv, Jw, Y0, Jx, true_and]
    refine ⟨by decide, ?_⟩
    rw [neT_strs hok, Y1]
    cases ho : p.others.isEmpty with
    | true =>
      have e0 : ownsP p = [] := by unfold ownsP; rw [if_pos ho]
      rw [e0] at loop fin ⊢
      simp only [Y1, Qf, Qt, Qu, Qa, Qg, Qv, Qw, Qx, Qy, Qh, Qz, Jy, Qi, Qb, Qj, Qk, Q0, Jz, Q1, Q2, J0, Q3, Q4, J1, Ql, Qm, Qn, Q5, Qo, Q6, Qp, Q7, Q8, J2, Q9, Ja, J3, J4, J5, Jb, J6, J7, Jc, J8, J9, Jd, Je, Ya, Jf, Yb, Jg, Jh, Y8, Yc, Ji, Yd, Ye, Yf, Yg, Yh, Y2, Jj, Qq, Jk, Yi, Jl, Jm, Yj, Y3, Yk, Yl, Y4, Ym, Y5, Yn, Qc, Yo, Jn, Yp, Yq, Y6, Yr, Qd, Jo, Jp, Y7, Ys, Yt, Yu, Yv, Yw, Yx, Jq, Jr, Qr, Js, Yy, Qe, Qs, List.set_cons_zero, List.set_cons_succ, List.map_cons, List.map_nil, List.replicate, List.cons_append, List.nil_append, List.length_cons, List.length_nil, Bool.false_eq_true, eq_self, if_true, if_false, Nat.zero_add, Jt, Yz, Ju, Jv, Jw, Y0, Jx, true_and, Bool.not_true]
      exact ⟨rfl, loop.mono fin⟩
    | false =>
      have e0 : ownsP p = namP p := by unfold ownsP; rw [ho, if_neg Bool.false_ne_true]
      have ea : ∀ s : Sto, gAdd (.tup [.str p.name]) (encS p.others) s = .ok (.tup ((ownsP p).map .str)) s := fun s => by
        rw [e0]
        have := add_tupD (a := [Dv.str p.name]) (b := p.others.map .str) (s := s) (by rw [List.length_map]; simp only [List.length_singleton]; omega)
        exact this
      simp only [Y1, Qf, Qt, Qu, Qa, Qg, Qv, Qw, Qx, Qy, Qh, Qz, Jy, Qi, Qb, Qj, Qk, Q0, Jz, Q1, Q2, J0, Q3, Q4, J1, Ql, Qm, Qn, Q5, Qo, Q6, Qp, Q7, Q8, J2, Q9, Ja, J3, J4, J5, Jb, J6, J7, Jc, J8, J9, Jd, Je, Ya, Jf, Yb, Jg, Jh, Y8, Yc, Ji, Yd, Ye, Yf, Yg, Yh, Y2, Jj, Qq, Jk, Yi, Jl, Jm, Yj, Y3, Yk, Yl, Y4, Ym, Y5, Yn, Qc, Yo, Jn, Yp, Yq, Y6, Yr, Qd, Jo, Jp, Y7, Ys, Yt, Yu, Yv, Yw, Yx, Jq, Jr, Qr, Js, Yy, Qe, Qs, List.set_cons_zero, List.set_cons_succ, List.map_cons, List.map_nil, List.replicate, List.cons_append, List.nil_append, List.length_cons, List.length_nil, Bool.false_eq_true, eq_self, if_true, if_false, Nat.zero_add, Jt, Yz, Ju, Jv, Jw, Y0, Jx, true_and, Bool.not_false]
      try refine ⟨by decide, ?_⟩
      rw [ea, Y1]
      simp only [Y1, Qf, Qt, Qu, Qa, Qg, Qv, Qw, Qx, Qy, Qh, Qz, Jy, Qi, Qb, Qj, Qk, Q0, Jz, Q1, Q2, J0, Q3, Q4, J1, Ql, Qm, Qn, Q5, Qo, Q6, Qp, Q7, Q8, J2, Q9, Ja, J3, J4, J5, Jb, J6, J7, Jc, J8, J9, Jd, Je, Ya, Jf, Yb, Jg, Jh, Y8, Yc, Ji, Yd, Ye, Yf, Yg, Yh, Y2, Jj, Qq, Jk, Yi, Jl, Jm, Yj, Y3, Yk, Yl, Y4, Ym, Y5, Yn, Qc, Yo, Jn, Yp, Yq, Y6, Yr, Qd, Jo, Jp, Y7, Ys, Yt, Yu, Yv, Yw, Yx, Jq, Jr, Qr, Js, Yy, Qe, Qs, List.set_cons_zero, List.set_cons_succ, List.map_cons, List.map_nil, List.replicate, List.cons_append, List.nil_append, List.length_cons, List.length_nil, Bool.false_eq_true, eq_self, if_true, if_false, Nat.zero_add, Jt, Yz, Ju, Jv, Jw, Y0, Jx, true_and]
      exact loop.mono fin
  · obtain ⟨v8, v9, v10, rfl, rfl⟩ := q
    rw [hH.1, List.take_length]
    exact hR _ _ _
end Z

namespace Z
open PySem PySem.Spec L2

theorem ok_dict0A {env : En} {s : Sto} {T : Dv → Sto → Prop} : OkE nX (fDict0 env s) T ↔ T (.loc s.length) (s ++ [Ob.dk []]) := Iff.rfl
/-- what lies in the store names only what lies in it -/
def Cl (s : Sto) : Prop := ∀ o ∈ s, belowO s.length o = true
theorem Cl.of {s : Sto} (h : Fl s) : Cl s := fun o ho => belowO_mono (Nat.zero_le _) (h o ho)
theorem Cl.app {s l : Sto} (h : Cl s) (hl : Fl l) : Cl (s ++ l) := fun o ho => by
  rcases List.mem_append.mp ho with h' | h'
  · exact belowO_mono (by rw [List.length_append]; omega) (h o h')
  · exact belowO_mono (Nat.zero_le _) (hl o h')
theorem ok_gcC {b l : Sto} {n : Nat} {d : Dv} {T : Dv → Sto → Prop} (hn : b.length = n) (hb : Cl b) (hd : below n d = true) (h : T d b) : OkE nX (gcZ n d (b ++ l)) T := by
  subst hn
  have ht : (b ++ l).take b.length = b := by simp
  have hk : keepsZ b.length (b ++ l) = true := by
    unfold keepsZ; rw [ht]
    exact List.all_eq_true.mpr fun o ho => hb o ho
  unfold gcZ
  rw [hd, hk, ht]
  exact h
theorem ok_gcC0 {b : Sto} {n : Nat} {d : Dv} {T : Dv → Sto → Prop} (hn : b.length = n) (hb : Cl b) (hd : below n d = true) (h : T d b) : OkE nX (gcZ n d b) T := by
  have := ok_gcC (l := []) hn hb hd h
  rwa [List.append_nil] at this
theorem cl_stP {b : Sto} {out : List (List (Nat × Str))} (h : Cl b) : Cl (stP b out) := fun o ho => by
  rw [stP_len]
  unfold stP at ho
  rcases List.mem_append.mp ho with h' | h'
  · exact belowO_mono (by omega) (h o h')
  · rcases List.mem_cons.mp h' with rfl | h'
    · refine belows_all fun d hd => ?_
      obtain ⟨j, hj, rfl⟩ := List.mem_map.mp hd
      have := List.mem_range.mp hj
      show decide (b.length + 1 + j < _) = true
      exact decide_eq_true (by omega)
    · obtain ⟨pl, _, rfl⟩ := List.mem_map.mp h'
      show (plK pl).all (fun p => below _ p.2) = true
      unfold plK
      rw [List.all_map]
      exact List.all_eq_true.mpr fun x _ => rfl
def plStep (P : List (List (Nat × Str))) (k : Nat) (p : Pil) : List (List (Nat × Str)) := if p.others.isEmpty = true then P else plsOf P k (namP p)
def placN (ps : List Pil) : Nat → List (List (Nat × Str))
  | 0 => [[]]
  | i + 1 => match ps[i]? with | some p => plStep (placN ps i) i p | none => placN ps i
theorem placN_succ {ps : List Pil} {i : Nat} {p : Pil} (h : ps[i]? = some p) : placN ps (i + 1) = plStep (placN ps i) i p := by simp only [placN, h]
theorem plsOf_mem {P : List (List (Nat × Str))} {k : Nat} {ns : List Str} {q : List (Nat × Str)} : q ∈ plsOf P k ns ↔ ∃ pl ∈ P, ∃ z ∈ ns, q = pl ++ [(k, z)] := by
  unfold plsOf
  rw [List.mem_flatMap]
  constructor
  · rintro ⟨pl, h1, h2⟩
    obtain ⟨z, hz, rfl⟩ := List.mem_map.mp h2
    exact ⟨pl, h1, z, hz, rfl⟩
  · rintro ⟨pl, h1, z, hz, rfl⟩
    exact ⟨pl, h1, List.mem_map.mpr ⟨z, hz, rfl⟩⟩
theorem placN_ok {c : Cnt} (hc : CntB c) : ∀ i : Nat, ∀ pl ∈ placN c.piles i, keysLt i pl ∧ pl.length ≤ i ∧ PlIn c pl
  | 0 => fun pl h => by
    rw [List.mem_singleton.mp h]
    exact ⟨fun x hx => (by cases hx), Nat.le_refl _, fun x hx => (by cases hx)⟩
  | i + 1 => fun pl h => by
    have ih := placN_ok hc i
    have up : ∀ pl ∈ placN c.piles i, keysLt (i + 1) pl ∧ pl.length ≤ i + 1 ∧ PlIn c pl := fun pl h => by
      obtain ⟨h1, h2, h3⟩ := ih pl h
      exact ⟨fun x hx => Nat.lt_succ_of_lt (h1 x hx), by omega, h3⟩
    cases hp : c.piles[i]? with
    | none =>
      simp only [placN, hp] at h
      exact up pl h
    | some p =>
      rw [placN_succ hp] at h
      have hpb := hc.piles p (List.mem_of_getElem? hp)
      unfold plStep at h
      split at h
      · exact up pl h
      · obtain ⟨q, hq, z, hz, rfl⟩ := plsOf_mem.mp h
        obtain ⟨h1, h2, h3⟩ := ih q hq
        have hzl : z ∈ c.lots := by
          rcases List.mem_cons.mp hz with h' | h'
          · rw [h']; exact hpb.name
          · exact (hpb.oth z h').1
        refine ⟨fun x hx => ?_, by rw [List.length_append, List.length_singleton]; omega, fun x hx => ?_⟩
        · rcases List.mem_append.mp hx with h' | h'
          · exact Nat.lt_succ_of_lt (h1 x h')
          · rw [List.mem_singleton.mp h']; exact Nat.lt_succ_self i
        · rcases List.mem_append.mp hx with h' | h'
          · exact h3 x h'
          · rw [List.mem_singleton.mp h']; exact hzl
theorem placN_len {c : Cnt} (hc : CntB c) : ∀ i : Nat, (placN c.piles i).length ≤ 3 ^ i ∧ placN c.piles i ≠ []
  | 0 => ⟨Nat.le_refl _, by simp [placN]⟩
  | i + 1 => by
    obtain ⟨ih, ine⟩ := placN_len hc i
    have h3 : 3 ^ i ≤ 3 ^ (i + 1) := Nat.pow_le_pow_right (by decide) (Nat.le_succ i)
    cases hp : c.piles[i]? with
    | none =>
      simp only [placN, hp]
      exact ⟨Nat.le_trans ih h3, ine⟩
    | some p =>
      rw [placN_succ hp]
      have hpb := hc.piles p (List.mem_of_getElem? hp)
      have := hpb.noth
      unfold plStep
      split
      · exact ⟨Nat.le_trans ih h3, ine⟩
      · have hl : (namP p).length ≤ 3 := by unfold namP; rw [List.length_cons]; omega
        refine ⟨?_, ?_⟩
        · rw [plsOf_len, Nat.pow_succ]
          exact Nat.mul_le_mul ih hl
        · intro e
          have h0 := congrArg List.length e
          rw [plsOf_len] at h0
          have h1 : 0 < (placN c.piles i).length := List.length_pos_iff.mpr ine
          have h2 : 0 < (namP p).length := by unfold namP; simp
          have := Nat.mul_pos h1 h2
          simp only [List.length_nil] at h0
          omega
def ListG (s : Sto) (b : Nat) (d : Dv) (ls : List Dv) : Prop := d = .ls ls ∨ ∃ n, b ≤ n ∧ d = .loc n ∧ s[n]? = some (.lst ls)
theorem ListG.at {s : Sto} {b : Nat} {d : Dv} {ls : List Dv} (h : ListG s b d ls) : ListAt s d ls := by
  rcases h with h | ⟨n, _, h1, h2⟩
  · exact .inl h
  · exact .inr ⟨n, h1, h2⟩
def LocsGe (b : Nat) (ls : List Dv) : Prop := ∀ d ∈ ls, ∃ m, d = .loc m ∧ b ≤ m
theorem belows_no {b : Nat} {ls : List Dv} (h : LocsGe b ls) (hne : ls ≠ []) : belows b ls = false := by
  cases ls with
  | nil => exact absurd rfl hne
  | cons d r =>
    obtain ⟨m, rfl, hm⟩ := h d List.mem_cons_self
    simp [belows, below]
    intro hlt
    omega
theorem fin_locs {b : Nat} {d : Dv} {ls : List Dv} {s : Sto} {T : Dv → Sto → Prop} (h : ListG s b d ls) (hg : LocsGe b ls) (hne : ls ≠ []) (hT : T d s) : OkE nX (gcZ b d s) T := by
  have hb := belows_no hg hne
  have e : gcZ b d s = .ok d s := by
    rcases h with rfl | ⟨n, hn, rfl, hs⟩
    · unfold gcZ
      have : below b (.ls ls) = false := by rw [show below b (.ls ls) = belows b ls by simp [below]]; exact hb
      rw [this, Bool.false_and, if_neg Bool.false_ne_true]
    · unfold gcZ
      have : below b (.loc n) = false := by simp [below]; omega
      rw [this, Bool.false_and, if_neg Bool.false_ne_true]
      simp only [hs, hb, Bool.and_false, Bool.false_and, Bool.false_eq_true, if_false]
  rw [e]
  exact hT
theorem locsL_ge {b n m : Nat} (h : b ≤ n) : LocsGe b (locsL n m) := fun d hd => by
  obtain ⟨j, _, rfl⟩ := List.mem_map.mp hd
  exact ⟨_, rfl, by omega⟩
def bPlac (bf : Fn Ct) : Fn Ct :=
  fSeq (fSet 1 (fVal (fLst (fCons (fDict0) (fNil)))))
  (fSeq (fFor (fEnum (fCons (fBin gIx (fVar 0) (fC (.int 1))) (fNil))) (gTp 2 (gsCons (gNm 2) (gsCons (gTp 4 (gsCons (gNm 3) (gsCons (gNm 4) (gsCons (gNm 5) (gsCons (gNm 6) (gsNil)))))) (gsNil)))) (fSeq (fSet 7 (fNew (fLst (fNil))))
  (fSeq bf
  (fSet 1 (fIf (fTest (fBin gNe (fVar 6) (fTup (fNil)))) (fVar 7) (fVar 1))))))
  (fRet (fVar 1)))
def PlacS (φ : Phi) : Prop := ∀ (c : Cnt) (s : Sto) (T : Dv → Sto → Prop), CntB c → Cl s → (∀ (d1 : Dv) (ls : List Dv) (l : Sto), Cl (s ++ l) → ListAt (s ++ l) d1 ls → HoldP (s ++ l) ls (placN c.piles c.piles.length) → T d1 (s ++ l)) → OkE nX (φ [encC c] s) T
theorem HoldP.more {s l : Sto} {ls : List Dv} {P : List (List (Nat × Str))} (h : HoldP s ls P) : HoldP (s ++ l) ls P := ⟨h.1, fun j pl hj => by
  obtain ⟨m, e1, e2⟩ := h.2 j pl hj
  exact ⟨m, e1, by rw [List.getElem?_append_left (List.getElem?_eq_some_iff.mp e2).1]; exact e2⟩⟩
theorem plac_spec {bf bi : Fn Ct} (hbf : bf = bPlaceFor bi) (hbi : bi = bPlaceIn) : PlacS (fDef 1 11 (bPlac bf)) := by
  intro c s T hc hcl hT
  have np := hc.npiles
  rw [ok_def]
  refine ⟨rfl, ?_⟩
  unfold bPlac
  simp only [Y1, Qf, Qt, Qu, Qa, Qg, Qv, Qw, Qx, Qy, Qh, Qz, Jy, Qi, Qb, Qj, Qk, Q0, Jz, Q1, Q2, J0, Q3, Q4, J1, Ql, Qm, Qn, Q5, Qo, Q6, Qp, Q7, Q8, J2, Q9, Ja, J3, J4, J5, Jb, J6, J7, Jc, J8, J9, Jd, Je, Ya, Jf, Yb, Jg, Jh, Y8, Yc, Ji, Yd, Ye, Yf, Yg, Yh, Y2, Jj, Qq, Jk, Yi, Jl, Jm, Yj, Y3, Yk, Yl, Y4, Ym, Y5, Yn, Qc, Yo, Jn, Yp, Yq, Y6, Yr, Qd, Jo, Jp, Y7, Ys, Yt, Yu, Yv, Yw, Yx, Jq, Jr, Qr, Js, Yy, Qe, Qs, List.set_cons_zero, List.set_cons_succ, List.map_cons, List.map_nil, List.replicate, List.cons_append, List.nil_append, List.length_cons, List.length_nil, Bool.false_eq_true, eq_self, if_true, if_false, Nat.zero_add, Jt, Yz, Ju, Jv, Jw, Y0, Jx, true_and, ok_dict0A]
  repeat (refine ⟨by decide, ?_⟩)
  simp only [Y1, Qf, Qt, Qu, Qa, Qg, Qv, Qw, Qx, Qy, Qh, Qz, Jy, Qi, Qb, Qj, Qk, Q0, Jz, Q1, Q2, J0, Q3, Q4, J1, Ql, Qm, Qn, Q5, Qo, Q6, Qp, Q7, Q8, J2, Q9, Ja, J3, J4, J5, Jb, J6, J7, Jc, J8, J9, Jd, Je, Ya, Jf, Yb, Jg, Jh, Y8, Yc, Ji, Yd, Ye, Yf, Yg, Yh, Y2, Jj, Qq, Jk, Yi, Jl, Jm, Yj, Y3, Yk, Yl, Y4, Ym, Y5, Yn, Qc, Yo, Jn, Yp, Yq, Y6, Yr, Qd, Jo, Jp, Y7, Ys, Yt, Yu, Yv, Yw, Yx, Jq, Jr, Qr, Js, Yy, Qe, Qs, List.set_cons_zero, List.set_cons_succ, List.map_cons, List.map_nil, List.replicate, List.cons_append, List.nil_append, List.length_cons, List.length_nil, Bool.false_eq_true, eq_self, if_true, if_false, Nat.zero_add, Jt, Yz, Ju, Jv, Jw, Y0, Jx, true_and, ok_enum, ixC1]
  refine kEnum_tup ?_
  refine ok_loop (fun i env s' => ∃ (d1 : Dv) (ls : List Dv) (l : Sto) (v2 v3 v4 v5 v6 v7 v8 v9 v10 : Option Dv), env = [some (encC c), some d1, v2, v3, v4, v5, v6, v7, v8, v9, v10] ∧ s' = s ++ l ∧ Cl (s ++ l) ∧ ListG (s ++ l) s.length d1 ls ∧ LocsGe s.length ls ∧ HoldP (s ++ l) ls (placN c.piles i))
    (fun _ _ _ _ => rfl) (fun i d env s' hd q => ?_) (fun env s' q => ?_) ⟨.ls [.loc s.length], [.loc s.length], [.dk []], none, none, none, none, none, none, none, none, none, rfl, rfl, hcl.app (fun o ho => by rw [List.mem_singleton.mp ho]; rfl), .inl rfl, fun d hd => ⟨_, List.mem_singleton.mp hd, Nat.le_refl _⟩, rfl, fun j pl hj => ?_⟩
  · obtain ⟨d1, ls, l, v2, v3, v4, v5, v6, v7, v8, v9, v10, rfl, rfl, hcL, hG, hge, hH⟩ := q
    have hi := (List.getElem?_eq_some_iff.mp hd).1
    rw [enumD_len, List.length_map] at hi
    obtain ⟨d2, hd2, rfl⟩ := enumD_get hd
    rw [List.getElem?_map] at hd2
    obtain ⟨p, hp, rfl⟩ := Option.map_eq_some_iff.mp hd2
    have hpb := hc.piles p (List.mem_of_getElem? hp)
    have hok : ∀ x ∈ p.others, PyData.strOk x = true ∧ x.cps.size ≤ 8 := fun x hx => word_ok (hc.word (hpb.oth x hx).1)
    have hPl : (placN c.piles i).length ≤ 30000 := by
      have := (placN_len hc i).1
      have h2 : 3 ^ i ≤ 3 ^ 9 := Nat.pow_le_pow_right (by decide) (by omega)
      omega
    unfold encP
    simp only [Y1, Qf, Qt, Qu, Qa, Qg, Qv, Qw, Qx, Qy, Qh, Qz, Jy, Qi, Qb, Qj, Qk, Q0, Jz, Q1, Q2, J0, Q3, Q4, J1, Ql, Qm, Qn, Q5, Qo, Q6, Qp, Q7, Q8, J2, Q9, Ja, J3, J4, J5, Jb, J6, J7, Jc, J8, J9, Jd, Je, Ya, Jf, Yb, Jg, Jh, Y8, Yc, Ji, Yd, Ye, Yf, Yg, Yh, Y2, Jj, Qq, Jk, Yi, Jl, Jm, Yj, Y3, Yk, Yl, Y4, Ym, Y5, Yn, Qc, Yo, Jn, Yp, Yq, Y6, Yr, Qd, Jo, Jp, Y7, Ys, Yt, Yu, Yv, Yw, Yx, Jq, Jr, Qr, Js, Yy, Qe, Qs, List.set_cons_zero, List.set_cons_succ, List.map_cons, List.map_nil, List.replicate, List.cons_append, List.nil_append, List.length_cons, List.length_nil, Bool.false_eq_true, eq_self, if_true, if_false, Nat.zero_add, Jt, Yz, Ju, Jv, Jw, Y0, Jx, true_and]
    refine ⟨rfl, rfl, ?_⟩
    repeat (refine ⟨by decide, ?_⟩)
    refine placeFor_spec hbf hbi hc hpb hG.at hH hPl (fun pl h => by
      obtain ⟨h1, h2, _⟩ := placN_ok hc i pl h
      exact ⟨h1, by omega⟩) fun v8 v9 v10 => ?_
    simp only [Y1, Qf, Qt, Qu, Qa, Qg, Qv, Qw, Qx, Qy, Qh, Qz, Jy, Qi, Qb, Qj, Qk, Q0, Jz, Q1, Q2, J0, Q3, Q4, J1, Ql, Qm, Qn, Q5, Qo, Q6, Qp, Q7, Q8, J2, Q9, Ja, J3, J4, J5, Jb, J6, J7, Jc, J8, J9, Jd, Je, Ya, Jf, Yb, Jg, Jh, Y8, Yc, Ji, Yd, Ye, Yf, Yg, Yh, Y2, Jj, Qq, Jk, Yi, Jl, Jm, Yj, Y3, Yk, Yl, Y4, Ym, Y5, Yn, Qc, Yo, Jn, Yp, Yq, Y6, Yr, Qd, Jo, Jp, Y7, Ys, Yt, Yu, Yv, Yw, Yx, Jq, Jr, Qr, Js, Yy, Qe, Qs, List.set_cons_zero, List.set_cons_succ, List.map_cons, List.map_nil, List.replicate, List.cons_append, List.nil_append, List.length_cons, List.length_nil, Bool.false_eq_true, eq_self, if_true, if_false, Nat.zero_add, Jt, Yz, Ju, Jv, Jw, Y0, Jx, true_and]
    repeat (refine ⟨by decide, ?_⟩)
    rw [neT_strs hok, Y1]
    have hst : stP (s ++ l) (plsOf (placN c.piles i) i (ownsP p)) = s ++ (l ++ .lst (locsL (s ++ l).length (plsOf (placN c.piles i) i (ownsP p)).length) :: (plsOf (placN c.piles i) i (ownsP p)).map dkP) := by
      unfold stP
      rw [List.append_assoc]
    cases ho : p.others.isEmpty with
    | true =>
      simp only [Y1, Qf, Qt, Qu, Qa, Qg, Qv, Qw, Qx, Qy, Qh, Qz, Jy, Qi, Qb, Qj, Qk, Q0, Jz, Q1, Q2, J0, Q3, Q4, J1, Ql, Qm, Qn, Q5, Qo, Q6, Qp, Q7, Q8, J2, Q9, Ja, J3, J4, J5, Jb, J6, J7, Jc, J8, J9, Jd, Je, Ya, Jf, Yb, Jg, Jh, Y8, Yc, Ji, Yd, Ye, Yf, Yg, Yh, Y2, Jj, Qq, Jk, Yi, Jl, Jm, Yj, Y3, Yk, Yl, Y4, Ym, Y5, Yn, Qc, Yo, Jn, Yp, Yq, Y6, Yr, Qd, Jo, Jp, Y7, Ys, Yt, Yu, Yv, Yw, Yx, Jq, Jr, Qr, Js, Yy, Qe, Qs, List.set_cons_zero, List.set_cons_succ, List.map_cons, List.map_nil, List.replicate, List.cons_append, List.nil_append, List.length_cons, List.length_nil, Bool.false_eq_true, eq_self, if_true, if_false, Nat.zero_add, Jt, Yz, Ju, Jv, Jw, Y0, Jx, true_and, Bool.not_true]
      refine ⟨d1, ls, _, _, _, _, _, _, _, _, _, _, rfl, hst, by rw [← hst]; exact cl_stP hcL, ?_, hge, ?_⟩
      · rcases hG with h | ⟨n, h0, h1, h2⟩
        · exact .inl h
        · exact .inr ⟨n, h0, h1, by rw [← hst]; exact stP_old h2⟩
      · rw [placN_succ hp, plStep, if_pos ho, ← List.append_assoc]
        exact hH.more
    | false =>
      have eo : ownsP p = namP p := by unfold ownsP; rw [ho, if_neg Bool.false_ne_true]
      simp only [Y1, Qf, Qt, Qu, Qa, Qg, Qv, Qw, Qx, Qy, Qh, Qz, Jy, Qi, Qb, Qj, Qk, Q0, Jz, Q1, Q2, J0, Q3, Q4, J1, Ql, Qm, Qn, Q5, Qo, Q6, Qp, Q7, Q8, J2, Q9, Ja, J3, J4, J5, Jb, J6, J7, Jc, J8, J9, Jd, Je, Ya, Jf, Yb, Jg, Jh, Y8, Yc, Ji, Yd, Ye, Yf, Yg, Yh, Y2, Jj, Qq, Jk, Yi, Jl, Jm, Yj, Y3, Yk, Yl, Y4, Ym, Y5, Yn, Qc, Yo, Jn, Yp, Yq, Y6, Yr, Qd, Jo, Jp, Y7, Ys, Yt, Yu, Yv, Yw, Yx, Jq, Jr, Qr, Js, Yy, Qe, Qs, List.set_cons_zero, List.set_cons_succ, List.map_cons, List.map_nil, List.replicate, List.cons_append, List.nil_append, List.length_cons, List.length_nil, Bool.false_eq_true, eq_self, if_true, if_false, Nat.zero_add, Jt, Yz, Ju, Jv, Jw, Y0, Jx, true_and, Bool.not_false]
      refine ⟨.loc (s ++ l).length, locsL (s ++ l).length (plsOf (placN c.piles i) i (ownsP p)).length, _, _, _, _, _, _, _, _, _, _, rfl, hst, by rw [← hst]; exact cl_stP hcL, .inr ⟨(s ++ l).length, by rw [List.length_append]; omega, rfl, ?_⟩, locsL_ge (by rw [List.length_append]; omega), ?_⟩
      · rw [← hst]
        exact bs_get
      · rw [placN_succ hp, plStep, ho, if_neg Bool.false_ne_true, ← hst, ← eo]
        exact stP_hold
  · obtain ⟨d1, ls, l, v2, v3, v4, v5, v6, v7, v8, v9, v10, rfl, rfl, hcL, hG, hge, hH⟩ := q
    rw [enumD_len, List.length_map] at hH
    simp only [Y1, Qf, Qt, Qu, Qa, Qg, Qv, Qw, Qx, Qy, Qh, Qz, Jy, Qi, Qb, Qj, Qk, Q0, Jz, Q1, Q2, J0, Q3, Q4, J1, Ql, Qm, Qn, Q5, Qo, Q6, Qp, Q7, Q8, J2, Q9, Ja, J3, J4, J5, Jb, J6, J7, Jc, J8, J9, Jd, Je, Ya, Jf, Yb, Jg, Jh, Y8, Yc, Ji, Yd, Ye, Yf, Yg, Yh, Y2, Jj, Qq, Jk, Yi, Jl, Jm, Yj, Y3, Yk, Yl, Y4, Ym, Y5, Yn, Qc, Yo, Jn, Yp, Yq, Y6, Yr, Qd, Jo, Jp, Y7, Ys, Yt, Yu, Yv, Yw, Yx, Jq, Jr, Qr, Js, Yy, Qe, Qs, List.set_cons_zero, List.set_cons_succ, List.map_cons, List.map_nil, List.replicate, List.cons_append, List.nil_append, List.length_cons, List.length_nil, Bool.false_eq_true, eq_self, if_true, if_false, Nat.zero_add, Jt, Yz, Ju, Jv, Jw, Y0, Jx, true_and]
    have hne : ls ≠ [] := fun e => by
      have h1 := hH.1
      rw [e] at h1
      exact (placN_len hc c.piles.length).2 (List.eq_nil_of_length_eq_zero h1.symm)
    exact fin_locs hG hge hne (hT d1 ls l hcL hG.at hH)
  · have : j = 0 ∧ pl = [] := by
      cases j with
      | zero => exact ⟨rfl, (Option.some.inj hj).symm⟩
      | succ j => cases hj
    obtain ⟨rfl, rfl⟩ := this
    exact ⟨s.length, rfl, bs_get⟩
end Z

namespace Z
open PySem PySem.Spec L2

/-! ### doubts seated: that it ends, and keeps its dicts in shape -/
def trK (ts : List Str) : List (Key × Dv) := ts.map fun z => (.inr z, .bl true)
def setG (g : List (Nat × Str)) (k : Nat) (z : Str) : List (Nat × Str) := if (lookP g k).isSome = true then g.map (fun x => if x.1 = k then (k, z) else x) else g ++ [(k, z)]
theorem nodup_le : ∀ {α : Type} [DecidableEq α] {xs ys : List α}, xs.Nodup → (∀ x ∈ xs, x ∈ ys) → xs.length ≤ ys.length
  | _, _, [], _, _, _ => Nat.zero_le _
  | _, _, x :: xs, ys, hn, h => by
    have hn' := List.nodup_cons.mp hn
    have hx := h x List.mem_cons_self
    have ih := nodup_le (xs := xs) (ys := ys.erase x) hn'.2 fun y hy => by
      have hne : y ≠ x := fun e => hn'.1 (by rw [← e]; exact hy)
      exact (List.mem_erase_of_ne hne).mpr (h y (List.mem_cons_of_mem _ hy))
    have hl := List.length_erase_of_mem hx
    have hp : 0 < ys.length := List.length_pos_of_mem hx
    rw [List.length_cons]
    omega
structure GOK (c : Cnt) (g : List (Nat × Str)) : Prop where
  ok : ∀ x ∈ g, x.1 < c.doubts.length ∧ x.2 ∈ c.lots
  nd : (g.map (·.1)).Nodup
theorem GOK.len {c : Cnt} (hc : CntB c) {g : List (Nat × Str)} (h : GOK c g) : g.length ≤ 100 := by
  have := nodup_le (xs := g.map (·.1)) (ys := List.range c.doubts.length) h.nd fun x hx => by
    obtain ⟨y, hy, rfl⟩ := List.mem_map.mp hx
    exact List.mem_range.mpr (h.ok y hy).1
  rw [List.length_map, List.length_range] at this
  have := hc.ndoubts
  omega
theorem putG {g : List (Nat × Str)} {k : Nat} {z : Str} : putD (plK g) (.inl ((k : Nat) : Int)) (.str z) = plK (setG g k z) := by
  unfold putD setG
  rw [plK_any]
  cases (lookP g k).isSome with
  | true =>
    simp only [if_true, plK, List.map_map]
    refine List.map_congr_left fun x hx => ?_
    show (if (Sum.inl ((x.1 : Nat) : Int) : Key) = Sum.inl ((k : Nat) : Int) then ((Sum.inl ((x.1 : Nat) : Int) : Key), Dv.str z) else (Sum.inl ((x.1 : Nat) : Int), Dv.str x.2)) = _
    by_cases h : x.1 = k
    · rw [if_pos (by rw [h])]
      simp [h]
    · rw [if_neg (fun e => h (by injection e with e; omega))]
      simp [h]
  | false =>
    simp [plK]
theorem trK_any {ts : List Str} {z : Str} : ((trK ts).any fun kv => decide (kv.1 = Sum.inr z)) = decide (z ∈ ts) := by
  unfold trK
  induction ts with
  | nil => rfl
  | cons x r ih =>
    rw [List.map_cons, List.any_cons, ih]
    by_cases h : x = z
    · subst h
      rw [decide_eq_true (show (Sum.inr x : Key) = Sum.inr x from rfl), decide_eq_true (show x ∈ x :: r from List.mem_cons_self)]; rfl
    · rw [decide_eq_false (fun e => h (by injection e))]
      by_cases h2 : z ∈ r
      · rw [decide_eq_true h2, decide_eq_true (List.mem_cons_of_mem _ h2)]; rfl
      · rw [decide_eq_false h2, decide_eq_false (fun q => (List.mem_cons.mp q).elim (fun e => h e.symm) h2)]; rfl
theorem notin_tr {ts : List Str} {z : Str} {n : Nat} {s : Sto} (h : s[n]? = some (.dk (trK ts))) : gNotInK (.str z) (.loc n) s = .ok (.bl (!decide (z ∈ ts))) s := by
  have e : gInK (.str z) (.loc n) s = .ok (.bl (decide (z ∈ ts))) s := by
    show (match s[n]? with | some (.dk kvs) => (match keyD (.str z) with | some k => Rs.ok (Dv.bl (kvs.any fun kv => decide (kv.1 = k))) s | none => .bad) | _ => .bad) = _
    rw [h]
    show Rs.ok (Dv.bl ((trK ts).any fun kv => decide (kv.1 = Sum.inr z))) s = _
    rw [trK_any]
  show (gInK (.str z) (.loc n) s).bind _ = _
  rw [e]; rfl
theorem put_tr {ts : List Str} {z : Str} {n : Nat} {s : Sto} (h : s[n]? = some (.dk (trK ts))) (hl : ts.length ≤ 100) (hz : z ∉ ts) : gPut (.loc n) (.str z) (.bl true) s = .ok () (s.set n (.dk (trK (ts ++ [z])))) := by
  show (match s[n]? with | some (.lst ds) => _ | some (.dk kvs) => (match keyD (.str z) with | some k => Rs.iff (decide (kvs.length < 16777216)) (.ok () (s.set n (.dk (putD kvs k (.bl true))))) | none => .bad) | _ => .bad) = _
  rw [h]
  show Rs.iff (decide ((trK ts).length < 16777216)) (Rs.ok () (s.set n (.dk (putD (trK ts) (.inr z) (.bl true))))) = _
  have e : putD (trK ts) (.inr z) (.bl true) = trK (ts ++ [z]) := by
    unfold putD
    rw [trK_any, decide_eq_false hz]
    simp [trK]
  rw [decide_eq_true (by unfold trK; rw [List.length_map]; omega), e]; rfl
theorem put_g {g : List (Nat × Str)} {k n : Nat} {z : Str} {s : Sto} (hs : s[n]? = some (.dk (plK g))) (hl : g.length ≤ 100) : gPut (.loc n) (.int (k : Nat)) (.str z) s = .ok () (s.set n (.dk (plK (setG g k z)))) := by
  show (match s[n]? with | some (.lst ds) => _ | some (.dk kvs) => (match keyD (.int (k : Nat)) with | some k => Rs.iff (decide (kvs.length < 16777216)) (.ok () (s.set n (.dk (putD kvs k (.str z))))) | none => .bad) | _ => .bad) = _
  rw [hs]
  show Rs.iff (decide ((plK g).length < 16777216)) (Rs.ok () (s.set n (.dk (putD (plK g) (.inl ((k : Nat) : Int)) (.str z))))) = _
  rw [decide_eq_true (by unfold plK; rw [List.length_map]; omega), putG]; rfl
/-- the doubts that a name holds -/
theorem dkD_pl {c : Cnt} {g0 : List (Nat × Str)} (h0 : GOK c g0) {b : Str} : ∀ {g : List (Nat × Str)}, (∀ x ∈ g, x ∈ g0) → ∃ ks : List Nat, dkD (plK g0) b (plK g) = some (ks.map fun k : Nat => Dv.int (k : Int)) ∧ ks.length ≤ g.length ∧ ∀ k ∈ ks, k < c.doubts.length
  | [], _ => ⟨[], rfl, Nat.le_refl _, fun k hk => (by cases hk)⟩
  | x :: r, h => by
    obtain ⟨ks, e, l, hk⟩ := dkD_pl h0 (b := b) (g := r) fun y hy => h y (List.mem_cons_of_mem _ hy)
    have hx := h x List.mem_cons_self
    obtain ⟨z, hz⟩ : ∃ z, lookP g0 x.1 = some z := by
      unfold lookP
      cases hf : g0.find? fun y => decide (y.1 = x.1) with
      | none => exact absurd (List.find?_eq_none.mp hf x hx) (by simp)
      | some y => exact ⟨y.2, rfl⟩
    have hlk : lookK (plK g0) (.inl ((x.1 : Nat) : Int)) = some (.str z) := by rw [plK_look, hz]; rfl
    have e2 : dkD (plK g0) b (plK (x :: r)) = some (if z == b then kD (.inl ((x.1 : Nat) : Int)) :: (ks.map fun k : Nat => Dv.int (k : Int)) else ks.map fun k : Nat => Dv.int (k : Int)) := by
      show (match lookK (plK g0) (.inl ((x.1 : Nat) : Int)), dkD (plK g0) b (plK r) with | some (.str z), some vs => some (if z == b then kD (.inl ((x.1 : Nat) : Int)) :: vs else vs) | _, _ => none) = _
      rw [hlk, e]
    rw [e2]
    cases z == b with
    | true =>
      refine ⟨x.1 :: ks, rfl, by simp only [List.length_cons]; omega, fun k hk' => ?_⟩
      rcases List.mem_cons.mp hk' with h' | h'
      · rw [h']; exact (h0.ok x hx).1
      · exact hk k h'
    | false => exact ⟨ks, rfl, by simp only [List.length_cons]; omega, hk⟩
theorem lookP_none {g : List (Nat × Str)} {k : Nat} (h : ¬ (lookP g k).isSome = true) : ∀ x ∈ g, x.1 ≠ k := fun x hx e => by
  apply h
  unfold lookP
  cases hf : g.find? fun y => decide (y.1 = k) with
  | none => exact absurd (List.find?_eq_none.mp hf x hx) (by simp [e])
  | some y => rfl
theorem setG_ok {c : Cnt} {g : List (Nat × Str)} (h : GOK c g) {k : Nat} (hk : k < c.doubts.length) {z : Str} (hz : z ∈ c.lots) : GOK c (setG g k z) := by
  unfold setG
  split
  · refine ⟨fun x hx => ?_, ?_⟩
    · obtain ⟨y, hy, rfl⟩ := List.mem_map.mp hx
      split
      · exact ⟨hk, hz⟩
      · exact h.ok y hy
    · have e : (g.map fun x => if x.1 = k then (k, z) else x).map (·.1) = g.map (·.1) := by
        rw [List.map_map]
        refine List.map_congr_left fun x _ => ?_
        show (if x.1 = k then (k, z) else x).1 = x.1
        by_cases hx : x.1 = k
        · rw [if_pos hx]; exact hx.symm
        · rw [if_neg hx]
      rw [e]
      exact h.nd
  · rename_i hn
    refine ⟨fun x hx => ?_, ?_⟩
    · rcases List.mem_append.mp hx with h' | h'
      · exact h.ok x h'
      · rw [List.mem_singleton.mp h']; exact ⟨hk, hz⟩
    · rw [List.map_append, List.nodup_append]
      refine ⟨h.nd, by simp, fun a ha b hb => ?_⟩
      obtain ⟨x, hx, rfl⟩ := List.mem_map.mp ha
      have hb : b = k := by simpa using hb
      rw [hb]
      exact lookP_none hn x hx
end Z

namespace Z
open PySem PySem.Spec L2

/-! ### seat_doubt -/
structure Seat (c : Cnt) (w : Str → Int) (s : Sto) (nf ng nt : Nat) (g : List (Nat × Str)) (ts : List Str) : Prop where
  free : s[nf]? = some (.dk (nmKv c.lots w))
  giv : s[ng]? = some (.dk (plK g))
  tri : s[nt]? = some (.dk (trK ts))
  fg : nf ≠ ng
  ft : nf ≠ nt
  gt : ng ≠ nt
  gok : GOK c g
  tnd : ts.Nodup
  tin : ∀ x ∈ ts, x ∈ c.lots
structure SeatE (s0 s : Sto) (ng nt : Nat) : Prop where
  len : s.length = s0.length
  same : ∀ m, m ≠ ng → m ≠ nt → s[m]? = s0[m]?
theorem SeatE.refl {s : Sto} {ng nt : Nat} : SeatE s s ng nt := ⟨rfl, fun _ _ _ => rfl⟩
theorem SeatE.trans {a b c : Sto} {ng nt : Nat} (h : SeatE a b ng nt) (h2 : SeatE b c ng nt) : SeatE a c ng nt := ⟨h2.len.trans h.len, fun m x y => (h2.same m x y).trans (h.same m x y)⟩
theorem SeatE.setT {s : Sto} {ng nt : Nat} {o : Ob} : SeatE s (s.set nt o) ng nt := ⟨List.length_set, fun m _ y => List.getElem?_set_ne (Ne.symm y)⟩
theorem SeatE.setG {s : Sto} {ng nt : Nat} {o : Ob} : SeatE s (s.set ng o) ng nt := ⟨List.length_set, fun m x _ => List.getElem?_set_ne (Ne.symm x)⟩
theorem Seat.tl {c : Cnt} (hc : CntB c) {w : Str → Int} {s : Sto} {nf ng nt : Nat} {g : List (Nat × Str)} {ts : List Str} (h : Seat c w s nf ng nt g ts) : ts.length ≤ 6 := Nat.le_trans (nodup_le h.tnd h.tin) hc.len6
theorem Seat.putT {c : Cnt} {w : Str → Int} {s : Sto} {nf ng nt : Nat} {g : List (Nat × Str)} {ts : List Str} (h : Seat c w s nf ng nt g ts) {z : Str} (hz : z ∉ ts) (hl : z ∈ c.lots) : Seat c w (s.set nt (.dk (trK (ts ++ [z])))) nf ng nt g (ts ++ [z]) := by
  have hn := (List.getElem?_eq_some_iff.mp h.tri).1
  refine ⟨by rw [List.getElem?_set_ne (Ne.symm h.ft)]; exact h.free, by rw [List.getElem?_set_ne (Ne.symm h.gt)]; exact h.giv, List.getElem?_set_self hn, h.fg, h.ft, h.gt, h.gok, ?_, fun x hx => ?_⟩
  · rw [List.nodup_append]
    refine ⟨h.tnd, by simp, fun a ha b hb => ?_⟩
    have hb : b = z := by simpa using hb
    rw [hb]
    intro e
    rw [e] at ha
    exact hz ha
  · rcases List.mem_append.mp hx with h' | h'
    · exact h.tin x h'
    · rw [List.mem_singleton.mp h']; exact hl
theorem Seat.putG {c : Cnt} {w : Str → Int} {s : Sto} {nf ng nt : Nat} {g : List (Nat × Str)} {ts : List Str} (h : Seat c w s nf ng nt g ts) {k : Nat} (hk : k < c.doubts.length) {z : Str} (hl : z ∈ c.lots) : Seat c w (s.set ng (.dk (plK (Z.setG g k z)))) nf ng nt (Z.setG g k z) ts := by
  have hn := (List.getElem?_eq_some_iff.mp h.giv).1
  exact ⟨by rw [List.getElem?_set_ne (Ne.symm h.fg)]; exact h.free, List.getElem?_set_self hn, by rw [List.getElem?_set_ne h.gt]; exact h.tri, h.fg, h.ft, h.gt, setG_ok h.gok hk hl, h.tnd, h.tin⟩
theorem dke_ok {env : En} {s : Sto} {jd jn jb n : Nat} {b : Str} {kvs : List (Key × Dv)} {ds : List Dv} (h1 : env[jd]? = some (some (.loc n))) (h2 : env[jb]? = some (some (.str b))) (h3 : s[n]? = some (.dk kvs)) (h4 : jn < env.length) (h5 : kvs.length < 16777216) (h6 : dkD kvs b kvs = some ds) : fDKe jd jn jb env s = .ok ds s := by
  unfold fDKe
  rw [h1, h2]
  simp only [h3]
  rw [if_pos ⟨h4, h5⟩, h6]
theorem fin_len {b : Nat} {s : Sto} {d : Dv} {T : Dv → Sto → Prop} (hb : s.length = b) (hd : ∀ n, d ≠ .loc n) (h : T d s) : OkE nX (gcZ b d s) T := by
  subst hb
  exact fin_any hd h
def SeatS (j : Nat) (φ : Phi) : Prop := ∀ (c : Cnt) (w : Str → Int) (s : Sto) (nf ng nt : Nat) (g : List (Nat × Str)) (ts : List Str) (k : Nat), CntB c → Seat c w s nf ng nt g ts → k < c.doubts.length → 7 ≤ ts.length + j →
  OkE nX (φ [encC c, .int (k : Nat), .loc nf, .loc ng, .loc nt] s) fun d s' => ∃ (b : Bool) (g' : List (Nat × Str)) (ts' : List Str), d = .bl b ∧ Seat c w s' nf ng nt g' ts' ∧ SeatE s s' ng nt ∧ ts.length ≤ ts'.length
def bSeat (ψ : Phi) : Fn Ct :=
  fSeq (fFor (fSrc (fBin gIx (fBin gIx (fVar 0) (fC (.int 2))) (fVar 1))) (gNm 5) (fIfS (fTest (fBin gNotInK (fVar 5) (fVar 4))) (fSeq (fPut (fVar 4) (fVar 5) (fC (.bl true)))
  (fSeq (fSet 7 (fVal (fDKe 3 6 5)))
  (fSeq (fIfS (fTest (fBin gLt (fCall gLen (fCons (fVar 7) (fNil))) (fBin gIx (fVar 2) (fVar 5)))) (fSeq (fPut (fVar 3) (fVar 1) (fVar 5))
  (fRet (fC (.bl true)))) (fNop))
  (fFor (fSrc (fVar 7)) (gNm 6) (fIfS (fTest (fCall ψ (fCons (fVar 0) (fCons (fVar 6) (fCons (fVar 2) (fCons (fVar 3) (fCons (fVar 4) (fNil)))))))) (fSeq (fPut (fVar 3) (fVar 1) (fVar 5))
  (fRet (fC (.bl true)))) (fNop)))))) (fNop)))
  (fRet (fC (.bl false)))
theorem seat_step {ψ : Phi} {j : Nat} (hψ : SeatS j ψ) : SeatS (j + 1) (fDef 5 8 (bSeat ψ)) := by
  intro c w s nf ng nt g ts k hc hS hk hj
  have ip : ∀ (d : List Str) (s : Sto), c.doubts[k]? = some d → gIx (.tup (c.doubts.map encS)) (.int (k : Nat)) s = .ok (encS d) s := fun d s h => ix_tupN (by rw [List.getElem?_map, h]; rfl)
  obtain ⟨dd, hdd⟩ : ∃ d, c.doubts[k]? = some d := ⟨_, List.getElem?_eq_getElem hk⟩
  have hdb := hc.doubts dd (List.mem_of_getElem? hdd)
  rw [ok_def]
  refine ⟨rfl, ?_⟩
  unfold bSeat
  simp only [Y1, Qf, Qt, Qu, Qa, Qg, Qv, Qw, Qx, Qy, Qh, Qz, Jy, Qi, Qb, Qj, Qk, Q0, Jz, Q1, Q2, J0, Q3, Q4, J1, Ql, Qm, Qn, Q5, Qo, Q6, Qp, Q7, Q8, J2, Q9, Ja, J3, J4, J5, Jb, J6, J7, Jc, J8, J9, Jd, Je, Ya, Jf, Yb, Jg, Jh, Y8, Yc, Ji, Yd, Ye, Yf, Yg, Yh, Y2, Jj, Qq, Jk, Yi, Jl, Jm, Yj, Y3, Yk, Yl, Y4, Ym, Y5, Yn, Qc, Yo, Jn, Yp, Yq, Y6, Yr, Qd, Jo, Jp, Y7, Ys, Yt, Yu, Yv, Yw, Yx, Jq, Jr, Qr, Js, Yy, Qe, Qs, List.set_cons_zero, List.set_cons_succ, List.map_cons, List.map_nil, List.replicate, List.cons_append, List.nil_append, List.length_cons, List.length_nil, Bool.false_eq_true, eq_self, if_true, if_false, Nat.zero_add, Jt, Yz, Ju, Jv, Jw, Y0, Jx, true_and, ixC2, ip dd _ hdd]
  refine ok_loop (fun i env s' => ∃ (v5 v6 v7 : Option Dv) (g' : List (Nat × Str)) (ts' : List Str), env = [some (encC c), some (.int (k : Nat)), some (.loc nf), some (.loc ng), some (.loc nt), v5, v6, v7] ∧ Seat c w s' nf ng nt g' ts' ∧ SeatE s s' ng nt ∧ ts.length ≤ ts'.length)
    (fun _ _ _ _ => rfl) (fun i d env s' hd q => ?_) (fun env s' q => ?_) ⟨none, none, none, g, ts, rfl, hS, .refl, Nat.le_refl _⟩
  · obtain ⟨v5, v6, v7, g1, t1, rfl, hS1, hE1, hl1⟩ := q
    rw [List.getElem?_map] at hd
    obtain ⟨z, hz, rfl⟩ := Option.map_eq_some_iff.mp hd
    have hzl := hdb.2.2.2 z (List.mem_of_getElem? hz)
    simp only [Y1, Qf, Qt, Qu, Qa, Qg, Qv, Qw, Qx, Qy, Qh, Qz, Jy, Qi, Qb, Qj, Qk, Q0, Jz, Q1, Q2, J0, Q3, Q4, J1, Ql, Qm, Qn, Q5, Qo, Q6, Qp, Q7, Q8, J2, Q9, Ja, J3, J4, J5, Jb, J6, J7, Jc, J8, J9, Jd, Je, Ya, Jf, Yb, Jg, Jh, Y8, Yc, Ji, Yd, Ye, Yf, Yg, Yh, Y2, Jj, Qq, Jk, Yi, Jl, Jm, Yj, Y3, Yk, Yl, Y4, Ym, Y5, Yn, Qc, Yo, Jn, Yp, Yq, Y6, Yr, Qd, Jo, Jp, Y7, Ys, Yt, Yu, Yv, Yw, Yx, Jq, Jr, Qr, Js, Yy, Qe, Qs, List.set_cons_zero, List.set_cons_succ, List.map_cons, List.map_nil, List.replicate, List.cons_append, List.nil_append, List.length_cons, List.length_nil, Bool.false_eq_true, eq_self, if_true, if_false, Nat.zero_add, Jt, Yz, Ju, Jv, Jw, Y0, Jx, true_and, notin_tr hS1.tri]
    by_cases hzt : z ∈ t1
    · rw [decide_eq_true hzt]
      simp only [Y1, Qf, Qt, Qu, Qa, Qg, Qv, Qw, Qx, Qy, Qh, Qz, Jy, Qi, Qb, Qj, Qk, Q0, Jz, Q1, Q2, J0, Q3, Q4, J1, Ql, Qm, Qn, Q5, Qo, Q6, Qp, Q7, Q8, J2, Q9, Ja, J3, J4, J5, Jb, J6, J7, Jc, J8, J9, Jd, Je, Ya, Jf, Yb, Jg, Jh, Y8, Yc, Ji, Yd, Ye, Yf, Yg, Yh, Y2, Jj, Qq, Jk, Yi, Jl, Jm, Yj, Y3, Yk, Yl, Y4, Ym, Y5, Yn, Qc, Yo, Jn, Yp, Yq, Y6, Yr, Qd, Jo, Jp, Y7, Ys, Yt, Yu, Yv, Yw, Yx, Jq, Jr, Qr, Js, Yy, Qe, Qs, List.set_cons_zero, List.set_cons_succ, List.map_cons, List.map_nil, List.replicate, List.cons_append, List.nil_append, List.length_cons, List.length_nil, Bool.false_eq_true, eq_self, if_true, if_false, Nat.zero_add, Jt, Yz, Ju, Jv, Jw, Y0, Jx, true_and, Bool.not_true]
      exact ⟨_, _, _, g1, t1, rfl, hS1, hE1, hl1⟩
    · rw [decide_eq_false hzt]
      have h6 := hS1.tl hc
      simp only [Y1, Qf, Qt, Qu, Qa, Qg, Qv, Qw, Qx, Qy, Qh, Qz, Jy, Qi, Qb, Qj, Qk, Q0, Jz, Q1, Q2, J0, Q3, Q4, J1, Ql, Qm, Qn, Q5, Qo, Q6, Qp, Q7, Q8, J2, Q9, Ja, J3, J4, J5, Jb, J6, J7, Jc, J8, J9, Jd, Je, Ya, Jf, Yb, Jg, Jh, Y8, Yc, Ji, Yd, Ye, Yf, Yg, Yh, Y2, Jj, Qq, Jk, Yi, Jl, Jm, Yj, Y3, Yk, Yl, Y4, Ym, Y5, Yn, Qc, Yo, Jn, Yp, Yq, Y6, Yr, Qd, Jo, Jp, Y7, Ys, Yt, Yu, Yv, Yw, Yx, Jq, Jr, Qr, Js, Yy, Qe, Qs, List.set_cons_zero, List.set_cons_succ, List.map_cons, List.map_nil, List.replicate, List.cons_append, List.nil_append, List.length_cons, List.length_nil, Bool.false_eq_true, eq_self, if_true, if_false, Nat.zero_add, Jt, Yz, Ju, Jv, Jw, Y0, Jx, true_and, Bool.not_false, put_tr hS1.tri (show t1.length ≤ 100 by omega) hzt]
      have hS2 := hS1.putT hzt hzl
      have hE2 : SeatE s (s'.set nt (.dk (trK (t1 ++ [z])))) ng nt := hE1.trans .setT
      generalize s'.set nt (.dk (trK (t1 ++ [z]))) = s2 at hS2 hE2
      have hl2 : ts.length ≤ (t1 ++ [z]).length := by rw [List.length_append]; omega
      have hl3 : 7 ≤ (t1 ++ [z]).length + j := by rw [List.length_append, List.length_singleton]; omega
      generalize t1 ++ [z] = t2 at hS2 hl2 hl3
      obtain ⟨ks, e1, e2, e3⟩ := dkD_pl hS2.gok (b := z) (g := g1) fun x hx => hx
      have hg1 := hS2.gok.len hc
      have eK : fDKe 3 6 5 [some (encC c), some (.int (k : Nat)), some (.loc nf), some (.loc ng), some (.loc nt), some (.str z), v6, v7] s2 = .ok (ks.map fun k : Nat => Dv.int (k : Int)) s2 := dke_ok rfl rfl hS2.giv (by simp) (by unfold plK; rw [List.length_map]; omega) e1
      rw [eK]
      simp only [Y1, Qf, Qt, Qu, Qa, Qg, Qv, Qw, Qx, Qy, Qh, Qz, Jy, Qi, Qb, Qj, Qk, Q0, Jz, Q1, Q2, J0, Q3, Q4, J1, Ql, Qm, Qn, Q5, Qo, Q6, Qp, Q7, Q8, J2, Q9, Ja, J3, J4, J5, Jb, J6, J7, Jc, J8, J9, Jd, Je, Ya, Jf, Yb, Jg, Jh, Y8, Yc, Ji, Yd, Ye, Yf, Yg, Yh, Y2, Jj, Qq, Jk, Yi, Jl, Jm, Yj, Y3, Yk, Yl, Y4, Ym, Y5, Yn, Qc, Yo, Jn, Yp, Yq, Y6, Yr, Qd, Jo, Jp, Y7, Ys, Yt, Yu, Yv, Yw, Yx, Jq, Jr, Qr, Js, Yy, Qe, Qs, List.set_cons_zero, List.set_cons_succ, List.map_cons, List.map_nil, List.replicate, List.cons_append, List.nil_append, List.length_cons, List.length_nil, Bool.false_eq_true, eq_self, if_true, if_false, Nat.zero_add, Jt, Yz, Ju, Jv, Jw, Y0, Jx, true_and, len_ls, List.length_map, ix_nm hS2.free hzl, lt_int]
      have last : ∀ {s3 : Sto} {g3 : List (Nat × Str)} {t3 : List Str}, Seat c w s3 nf ng nt g3 t3 → SeatE s s3 ng nt → ts.length ≤ t3.length → OkE nX (gcZ s.length (.bl true) (s3.set ng (.dk (plK (Z.setG g3 k z))))) (fun d s' => ∃ (b : Bool) (g' : List (Nat × Str)) (ts' : List Str), d = .bl b ∧ Seat c w s' nf ng nt g' ts' ∧ SeatE s s' ng nt ∧ ts.length ≤ ts'.length) := fun {s3 g3 t3} h1 h2 h3 =>
        fin_len (by rw [List.length_set]; exact h2.len) (fun n => nofun) ⟨true, _, t3, rfl, h1.putG hk hzl, h2.trans .setG, h3⟩
      by_cases hlt : ((ks.length : Nat) : Int) < w z
      · rw [decide_eq_true hlt]
        simp only [Y1, Qf, Qt, Qu, Qa, Qg, Qv, Qw, Qx, Qy, Qh, Qz, Jy, Qi, Qb, Qj, Qk, Q0, Jz, Q1, Q2, J0, Q3, Q4, J1, Ql, Qm, Qn, Q5, Qo, Q6, Qp, Q7, Q8, J2, Q9, Ja, J3, J4, J5, Jb, J6, J7, Jc, J8, J9, Jd, Je, Ya, Jf, Yb, Jg, Jh, Y8, Yc, Ji, Yd, Ye, Yf, Yg, Yh, Y2, Jj, Qq, Jk, Yi, Jl, Jm, Yj, Y3, Yk, Yl, Y4, Ym, Y5, Yn, Qc, Yo, Jn, Yp, Yq, Y6, Yr, Qd, Jo, Jp, Y7, Ys, Yt, Yu, Yv, Yw, Yx, Jq, Jr, Qr, Js, Yy, Qe, Qs, List.set_cons_zero, List.set_cons_succ, List.map_cons, List.map_nil, List.replicate, List.cons_append, List.nil_append, List.length_cons, List.length_nil, Bool.false_eq_true, eq_self, if_true, if_false, Nat.zero_add, Jt, Yz, Ju, Jv, Jw, Y0, Jx, true_and, put_g hS2.giv hg1]
        exact last hS2 hE2 hl2
      · rw [decide_eq_false hlt]
        simp only [Y1, Qf, Qt, Qu, Qa, Qg, Qv, Qw, Qx, Qy, Qh, Qz, Jy, Qi, Qb, Qj, Qk, Q0, Jz, Q1, Q2, J0, Q3, Q4, J1, Ql, Qm, Qn, Q5, Qo, Q6, Qp, Q7, Q8, J2, Q9, Ja, J3, J4, J5, Jb, J6, J7, Jc, J8, J9, Jd, Je, Ya, Jf, Yb, Jg, Jh, Y8, Yc, Ji, Yd, Ye, Yf, Yg, Yh, Y2, Jj, Qq, Jk, Yi, Jl, Jm, Yj, Y3, Yk, Yl, Y4, Ym, Y5, Yn, Qc, Yo, Jn, Yp, Yq, Y6, Yr, Qd, Jo, Jp, Y7, Ys, Yt, Yu, Yv, Yw, Yx, Jq, Jr, Qr, Js, Yy, Qe, Qs, List.set_cons_zero, List.set_cons_succ, List.map_cons, List.map_nil, List.replicate, List.cons_append, List.nil_append, List.length_cons, List.length_nil, Bool.false_eq_true, eq_self, if_true, if_false, Nat.zero_add, Jt, Yz, Ju, Jv, Jw, Y0, Jx, true_and]
        refine ok_loop (fun i env s' => ∃ (v6 : Option Dv) (g' : List (Nat × Str)) (ts' : List Str), env = [some (encC c), some (.int (k : Nat)), some (.loc nf), some (.loc ng), some (.loc nt), some (.str z), v6, some (.ls (ks.map fun k : Nat => Dv.int (k : Int)))] ∧ Seat c w s' nf ng nt g' ts' ∧ SeatE s s' ng nt ∧ t2.length ≤ ts'.length)
          (fun _ _ _ _ => rfl) (fun i d env s3 hd q => ?_) (fun env s3 q => ?_) ⟨_, g1, t2, rfl, hS2, hE2, Nat.le_refl _⟩
        · obtain ⟨v6, g3, t3, rfl, hS3, hE3, hl4⟩ := q
          rw [List.getElem?_map] at hd
          obtain ⟨o, ho, rfl⟩ := Option.map_eq_some_iff.mp hd
          simp only [Y1, Qf, Qt, Qu, Qa, Qg, Qv, Qw, Qx, Qy, Qh, Qz, Jy, Qi, Qb, Qj, Qk, Q0, Jz, Q1, Q2, J0, Q3, Q4, J1, Ql, Qm, Qn, Q5, Qo, Q6, Qp, Q7, Q8, J2, Q9, Ja, J3, J4, J5, Jb, J6, J7, Jc, J8, J9, Jd, Je, Ya, Jf, Yb, Jg, Jh, Y8, Yc, Ji, Yd, Ye, Yf, Yg, Yh, Y2, Jj, Qq, Jk, Yi, Jl, Jm, Yj, Y3, Yk, Yl, Y4, Ym, Y5, Yn, Qc, Yo, Jn, Yp, Yq, Y6, Yr, Qd, Jo, Jp, Y7, Ys, Yt, Yu, Yv, Yw, Yx, Jq, Jr, Qr, Js, Yy, Qe, Qs, List.set_cons_zero, List.set_cons_succ, List.map_cons, List.map_nil, List.replicate, List.cons_append, List.nil_append, List.length_cons, List.length_nil, Bool.false_eq_true, eq_self, if_true, if_false, Nat.zero_add, Jt, Yz, Ju, Jv, Jw, Y0, Jx, true_and]
          refine (hψ c w s3 nf ng nt g3 t3 o hc hS3 (e3 o (List.mem_of_getElem? ho)) (by omega)).mono ?_
          rintro d s4 ⟨b, g4, t4, rfl, hS4, hE4, hl5⟩
          have hE5 := hE3.trans hE4
          have hg4 := hS4.gok.len hc
          cases b with
          | true =>
            simp only [Y1, Qf, Qt, Qu, Qa, Qg, Qv, Qw, Qx, Qy, Qh, Qz, Jy, Qi, Qb, Qj, Qk, Q0, Jz, Q1, Q2, J0, Q3, Q4, J1, Ql, Qm, Qn, Q5, Qo, Q6, Qp, Q7, Q8, J2, Q9, Ja, J3, J4, J5, Jb, J6, J7, Jc, J8, J9, Jd, Je, Ya, Jf, Yb, Jg, Jh, Y8, Yc, Ji, Yd, Ye, Yf, Yg, Yh, Y2, Jj, Qq, Jk, Yi, Jl, Jm, Yj, Y3, Yk, Yl, Y4, Ym, Y5, Yn, Qc, Yo, Jn, Yp, Yq, Y6, Yr, Qd, Jo, Jp, Y7, Ys, Yt, Yu, Yv, Yw, Yx, Jq, Jr, Qr, Js, Yy, Qe, Qs, List.set_cons_zero, List.set_cons_succ, List.map_cons, List.map_nil, List.replicate, List.cons_append, List.nil_append, List.length_cons, List.length_nil, Bool.false_eq_true, eq_self, if_true, if_false, Nat.zero_add, Jt, Yz, Ju, Jv, Jw, Y0, Jx, true_and, put_g hS4.giv hg4]
            exact last hS4 hE5 (by omega)
          | false =>
            simp only [Y1, Qf, Qt, Qu, Qa, Qg, Qv, Qw, Qx, Qy, Qh, Qz, Jy, Qi, Qb, Qj, Qk, Q0, Jz, Q1, Q2, J0, Q3, Q4, J1, Ql, Qm, Qn, Q5, Qo, Q6, Qp, Q7, Q8, J2, Q9, Ja, J3, J4, J5, Jb, J6, J7, Jc, J8, J9, Jd, Je, Ya, Jf, Yb, Jg, Jh, Y8, Yc, Ji, Yd, Ye, Yf, Yg, Yh, Y2, Jj, Qq, Jk, Yi, Jl, Jm, Yj, Y3, Yk, Yl, Y4, Ym, Y5, Yn, Qc, Yo, Jn, Yp, Yq, Y6, Yr, Qd, Jo, Jp, Y7, Ys, Yt, Yu, Yv, Yw, Yx, Jq, Jr, Qr, Js, Yy, Qe, Qs, List.set_cons_zero, List.set_cons_succ, List.map_cons, List.map_nil, List.replicate, List.cons_append, List.nil_append, List.length_cons, List.length_nil, Bool.false_eq_true, eq_self, if_true, if_false, Nat.zero_add, Jt, Yz, Ju, Jv, Jw, Y0, Jx, true_and]
            exact ⟨_, g4, t4, rfl, hS4, hE5, by omega⟩
        · obtain ⟨v6, g3, t3, rfl, hS3, hE3, hl4⟩ := q
          exact ⟨_, _, _, g3, t3, rfl, hS3, hE3, by omega⟩
  · obtain ⟨v5, v6, v7, g1, t1, rfl, hS1, hE1, hl1⟩ := q
    simp only [Y1, Qf, Qt, Qu, Qa, Qg, Qv, Qw, Qx, Qy, Qh, Qz, Jy, Qi, Qb, Qj, Qk, Q0, Jz, Q1, Q2, J0, Q3, Q4, J1, Ql, Qm, Qn, Q5, Qo, Q6, Qp, Q7, Q8, J2, Q9, Ja, J3, J4, J5, Jb, J6, J7, Jc, J8, J9, Jd, Je, Ya, Jf, Yb, Jg, Jh, Y8, Yc, Ji, Yd, Ye, Yf, Yg, Yh, Y2, Jj, Qq, Jk, Yi, Jl, Jm, Yj, Y3, Yk, Yl, Y4, Ym, Y5, Yn, Qc, Yo, Jn, Yp, Yq, Y6, Yr, Qd, Jo, Jp, Y7, Ys, Yt, Yu, Yv, Yw, Yx, Jq, Jr, Qr, Js, Yy, Qe, Qs, List.set_cons_zero, List.set_cons_succ, List.map_cons, List.map_nil, List.replicate, List.cons_append, List.nil_append, List.length_cons, List.length_nil, Bool.false_eq_true, eq_self, if_true, if_false, Nat.zero_add, Jt, Yz, Ju, Jv, Jw, Y0, Jx, true_and]
    exact fin_len hE1.len (fun n => nofun) ⟨false, g1, t1, rfl, hS1, hE1, hl1⟩
theorem seat0 (φ : Phi) : SeatS 0 φ := fun c w s nf ng nt g ts k hc hS hk hj => by
  exfalso
  have := hS.tl hc
  omega
theorem seat_all : ∀ j : Nat, SeatS j (recZ 5 8 bSeat j)
  | 0 => seat0 _
  | j + 1 => seat_step (seat_all j)
end Z

namespace Z
open PySem PySem.Spec L2

/-! ### end_of: it tells some data -/
theorem get2_pl {fo fe ff : Fn Dv} {env : En} {s : Sto} {n k : Nat} {z : Str} {pl : List (Nat × Str)} (h : s[n]? = some (.dk (plK pl))) (ho : fo env s = .ok (.loc n) s) (he : fe env s = .ok (.int (k : Nat)) s) (hf : ff env s = .ok (.str z) s) : fGet2 fo fe ff env s = .ok (.str ((lookP pl k).getD z)) s := by
  unfold fGet2
  rw [ho]
  have hd : isDk (.loc n) s = true := by
    unfold isDk
    simp only [h]
  show Rs.iff (isDk (.loc n) s) ((fe env s).bind fun y s2 => (ff env s2).bind fun z s3 => gGetD (.loc n) y z s3) = _
  rw [hd, he]
  show ((ff env s).bind fun z s3 => gGetD (.loc n) (.int (k : Nat)) z s3) = _
  rw [hf]
  show gGetD (.loc n) (.int (k : Nat)) (.str z) s = _
  unfold gGetD
  simp only [h, keyD]
  rw [plK_look]
  cases lookP pl k <;> rfl
def bEnd1 (φl : Phi) : Fn Ct := (fFor (fEnum (fCons (fBin gIx (fVar 0) (fC (.int 1))) (fNil))) (gTp 2 (gsCons (gNm 6) (gsCons (gNm 7) (gsNil)))) (fSeq (fSet 8 (fGet2 (fVar 2) (fVar 6) (fBin gIx (fVar 7) (fC (.int 0)))))
  (fSeq (fSet 9 (fIf (fTest (fBin gEq (fVar 8) (fVar 1))) (fBin gAdd (fBin gIx (fVar 7) (fC (.int 1))) (fBin gIx (fVar 7) (fC (.int 2)))) (fCall φl (fCons (fVar 7) (fNil)))))
  (fSeq (fPut (fVar 5) (fVar 8) (fBin gSub (fBin gIx (fVar 5) (fVar 8)) (fVar 9)))
  (fDrop (fMt isL gAppend (fVar 4) (fCons (fTup (fCons (fVar 8) (fCons (fVar 9) (fNil)))) (fNil))))))))
def ownF (pl : List (Nat × Str)) (k : Nat) (p : Pil) : Str := (lookP pl k).getD p.name
/-- how great a pile is laid, where the name is to be first -/
def numF (name : Str) (pl : List (Nat × Str)) (k : Nat) (p : Pil) : Int := if ownF pl k p = name then p.many + p.slip else lowP p
def laidF (c : Cnt) (name : Str) (pl : List (Nat × Str)) (i : Nat) : List (Str × Int) := (List.range i).filterMap fun k => (c.piles[k]?).map fun p => (ownF pl k p, numF name pl k p)
theorem laidF_succ {c : Cnt} {name : Str} {pl : List (Nat × Str)} {i : Nat} {p : Pil} (h : c.piles[i]? = some p) : laidF c name pl (i + 1) = laidF c name pl i ++ [(ownF pl i p, numF name pl i p)] := by
  unfold laidF
  rw [List.range_succ, List.filterMap_append, List.filterMap_cons, h]; rfl
theorem laidF_len {c : Cnt} {name : Str} {pl : List (Nat × Str)} {i : Nat} : (laidF c name pl i).length ≤ i := by
  unfold laidF
  have := List.length_filterMap_le (fun k => (c.piles[k]?).map fun p => (ownF pl k p, numF name pl k p)) (List.range i)
  rwa [List.length_range] at this
theorem own_in {c : Cnt} {pl : List (Nat × Str)} (hp : PlIn c pl) {k : Nat} {p : Pil} (h : PilB c.lots p) : ownF pl k p ∈ c.lots := by
  unfold ownF
  cases hl : lookP pl k with
  | none => exact h.name
  | some z =>
    obtain ⟨x, hx, e⟩ := look_mem2 hl
    rw [← e]
    exact hp x hx
theorem end1_spec {φl : Phi} {b : Fn Ct} (hb : b = bEnd1 φl) (hl : LeastP φl) {c : Cnt} (hc : CntB c) {name : Str} {pl : List (Nat × Str)} (hpl : PlIn c pl) {n : Nat} {s : Sto} (hs : s[n]? = some (.dk (plK pl))) {w0 : Str → Int} {v3 v6 v7 v8 v9 v10 v11 v12 v13 : Option Dv} {R : Ct → Sto → Prop}
    (hR : ∀ (w : Str → Int) (v6 v7 v8 v9 : Option Dv), R (.next [some (encC c), some (.str name), some (.loc n), v3, some (.loc s.length), some (.loc (s.length + 1)), v6, v7, v8, v9, v10, v11, v12, v13]) (s ++ [.lst ((laidF c name pl c.piles.length).map encL), .dk (nmKv c.lots w)])) :
    OkE nX (b [some (encC c), some (.str name), some (.loc n), v3, some (.loc s.length), some (.loc (s.length + 1)), v6, v7, v8, v9, v10, v11, v12, v13] (s ++ [.lst [], .dk (nmKv c.lots w0)])) R := by
  subst hb
  have np := hc.npiles
  have l6 := hc.len6
  have hs' : ∀ l : Sto, (s ++ l)[n]? = some (.dk (plK pl)) := fun l => by rw [List.getElem?_append_left (List.getElem?_eq_some_iff.mp hs).1]; exact hs
  have g0 : ∀ (o o2 : Ob), (s ++ [o, o2])[s.length]? = some o := fun o o2 => bs_get
  have g1 : ∀ (o o2 : Ob), (s ++ [o, o2])[s.length + 1]? = some o2 := fun o o2 => by
    rw [List.getElem?_append_right (by omega), show s.length + 1 - s.length = 1 by omega]; rfl
  have t0 : ∀ (o o2 o' : Ob), (s ++ [o, o2]).set s.length o' = s ++ [o', o2] := fun o o2 o' => bs_set
  have t1 : ∀ (o o2 o' : Ob), (s ++ [o, o2]).set (s.length + 1) o' = s ++ [o, o'] := fun o o2 o' => by
    rw [List.set_append_right _ _ (by omega), show s.length + 1 - s.length = 1 by omega]; rfl
  unfold bEnd1
  simp only [Y1, Qf, Qt, Qu, Qa, Qg, Qv, Qw, Qx, Qy, Qh, Qz, Jy, Qi, Qb, Qj, Qk, Q0, Jz, Q1, Q2, J0, Q3, Q4, J1, Ql, Qm, Qn, Q5, Qo, Q6, Qp, Q7, Q8, J2, Q9, Ja, J3, J4, J5, Jb, J6, J7, Jc, J8, J9, Jd, Je, Ya, Jf, Yb, Jg, Jh, Y8, Yc, Ji, Yd, Ye, Yf, Yg, Yh, Y2, Jj, Qq, Jk, Yi, Jl, Jm, Yj, Y3, Yk, Yl, Y4, Ym, Y5, Yn, Qc, Yo, Jn, Yp, Yq, Y6, Yr, Qd, Jo, Jp, Y7, Ys, Yt, Yu, Yv, Yw, Yx, Jq, Jr, Qr, Js, Yy, Qe, Qs, List.set_cons_zero, List.set_cons_succ, List.map_cons, List.map_nil, List.replicate, List.cons_append, List.nil_append, List.length_cons, List.length_nil, Bool.false_eq_true, eq_self, if_true, if_false, Nat.zero_add, Jt, Yz, Ju, Jv, Jw, Y0, Jx, true_and, ok_enum, ixC1]
  refine kEnum_tup ?_
  refine ok_loop (fun i env s' => ∃ (w : Str → Int) (v6 v7 v8 v9 : Option Dv), env = [some (encC c), some (.str name), some (.loc n), v3, some (.loc s.length), some (.loc (s.length + 1)), v6, v7, v8, v9, v10, v11, v12, v13] ∧ s' = s ++ [.lst ((laidF c name pl i).map encL), .dk (nmKv c.lots w)])
    (fun _ _ _ _ => rfl) (fun i d env s' hd q => ?_) (fun env s' q => ?_) ⟨w0, v6, v7, v8, v9, rfl, rfl⟩
  · obtain ⟨w, v6, v7, v8, v9, rfl, rfl⟩ := q
    have hi := (List.getElem?_eq_some_iff.mp hd).1
    rw [enumD_len, List.length_map] at hi
    obtain ⟨d2, hd2, rfl⟩ := enumD_get hd
    rw [List.getElem?_map] at hd2
    obtain ⟨p, hp, rfl⟩ := Option.map_eq_some_iff.mp hd2
    have hpb := hc.piles p (List.mem_of_getElem? hp)
    have hown := own_in hpl (k := i) hpb
    have hll := laidF_len (c := c) (name := name) (pl := pl) (i := i)
    simp only [Y1, Qf, Qt, Qu, Qa, Qg, Qv, Qw, Qx, Qy, Qh, Qz, Jy, Qi, Qb, Qj, Qk, Q0, Jz, Q1, Q2, J0, Q3, Q4, J1, Ql, Qm, Qn, Q5, Qo, Q6, Qp, Q7, Q8, J2, Q9, Ja, J3, J4, J5, Jb, J6, J7, Jc, J8, J9, Jd, Je, Ya, Jf, Yb, Jg, Jh, Y8, Yc, Ji, Yd, Ye, Yf, Yg, Yh, Y2, Jj, Qq, Jk, Yi, Jl, Jm, Yj, Y3, Yk, Yl, Y4, Ym, Y5, Yn, Qc, Yo, Jn, Yp, Yq, Y6, Yr, Qd, Jo, Jp, Y7, Ys, Yt, Yu, Yv, Yw, Yx, Jq, Jr, Qr, Js, Yy, Qe, Qs, List.set_cons_zero, List.set_cons_succ, List.map_cons, List.map_nil, List.replicate, List.cons_append, List.nil_append, List.length_cons, List.length_nil, Bool.false_eq_true, eq_self, if_true, if_false, Nat.zero_add, Jt, Yz, Ju, Jv, Jw, Y0, Jx, true_and]
    refine ⟨rfl, ?_⟩
    have eg := get2_pl (fo := fVar 2) (fe := fVar 6) (ff := fBin gIx (fVar 7) (fC (.int 0))) (env := [some (encC c), some (.str name), some (.loc n), v3, some (.loc s.length), some (.loc (s.length + 1)), some (.int ((i : Nat) : Int)), some (encP p), v8, v9, v10, v11, v12, v13]) (k := i) (z := p.name) (hs' [.lst ((laidF c name pl i).map encL), .dk (nmKv c.lots w)]) rfl rfl rfl
    rw [eg, Y1, show (lookP pl i).getD p.name = ownF pl i p from rfl]
    rw [laidF_succ hp, List.map_append, List.map_singleton]
    have rest : OkE nX (fSeq (fPut (fVar 5) (fVar 8) (fBin gSub (fBin gIx (fVar 5) (fVar 8)) (fVar 9))) (fDrop (fMt isL gAppend (fVar 4) (fCons (fTup (fCons (fVar 8) (fCons (fVar 9) (fNil)))) (fNil)))) [some (encC c), some (.str name), some (.loc n), v3, some (.loc s.length), some (.loc (s.length + 1)), some (.int ((i : Nat) : Int)), some (encP p), some (.str (ownF pl i p)), some (.int (numF name pl i p)), v10, v11, v12, v13] (s ++ [.lst ((laidF c name pl i).map encL), .dk (nmKv c.lots w)])) (fun c' s2 => ∃ (w : Str → Int) (v6 v7 v8 v9 : Option Dv), c' = .next [some (encC c), some (.str name), some (.loc n), v3, some (.loc s.length), some (.loc (s.length + 1)), v6, v7, v8, v9, v10, v11, v12, v13] ∧ s2 = s ++ [.lst ((laidF c name pl i).map encL ++ [encL (ownF pl i p, numF name pl i p)]), .dk (nmKv c.lots w)]) := by
      simp only [Y1, Qf, Qt, Qu, Qa, Qg, Qv, Qw, Qx, Qy, Qh, Qz, Jy, Qi, Qb, Qj, Qk, Q0, Jz, Q1, Q2, J0, Q3, Q4, J1, Ql, Qm, Qn, Q5, Qo, Q6, Qp, Q7, Q8, J2, Q9, Ja, J3, J4, J5, Jb, J6, J7, Jc, J8, J9, Jd, Je, Ya, Jf, Yb, Jg, Jh, Y8, Yc, Ji, Yd, Ye, Yf, Yg, Yh, Y2, Jj, Qq, Jk, Yi, Jl, Jm, Yj, Y3, Yk, Yl, Y4, Ym, Y5, Yn, Qc, Yo, Jn, Yp, Yq, Y6, Yr, Qd, Jo, Jp, Y7, Ys, Yt, Yu, Yv, Yw, Yx, Jq, Jr, Qr, Js, Yy, Qe, Qs, List.set_cons_zero, List.set_cons_succ, List.map_cons, List.map_nil, List.replicate, List.cons_append, List.nil_append, List.length_cons, List.length_nil, Bool.false_eq_true, eq_self, if_true, if_false, Nat.zero_add, Jt, Yz, Ju, Jv, Jw, Y0, Jx, true_and, ix_nm (g1 _ _) hown, sub_int, put_nmS (v := w) (g1 _ _) (show c.lots.length < 16777216 by omega) hown, t1]
      refine ⟨isL_loc (g0 _ _), by decide, ?_⟩
      rw [append_loc (g0 _ _) (by rw [List.length_map]; omega), Y1, t0]
      simp only [Y1, Qf, Qt, Qu, Qa, Qg, Qv, Qw, Qx, Qy, Qh, Qz, Jy, Qi, Qb, Qj, Qk, Q0, Jz, Q1, Q2, J0, Q3, Q4, J1, Ql, Qm, Qn, Q5, Qo, Q6, Qp, Q7, Q8, J2, Q9, Ja, J3, J4, J5, Jb, J6, J7, Jc, J8, J9, Jd, Je, Ya, Jf, Yb, Jg, Jh, Y8, Yc, Ji, Yd, Ye, Yf, Yg, Yh, Y2, Jj, Qq, Jk, Yi, Jl, Jm, Yj, Y3, Yk, Yl, Y4, Ym, Y5, Yn, Qc, Yo, Jn, Yp, Yq, Y6, Yr, Qd, Jo, Jp, Y7, Ys, Yt, Yu, Yv, Yw, Yx, Jq, Jr, Qr, Js, Yy, Qe, Qs, List.set_cons_zero, List.set_cons_succ, List.map_cons, List.map_nil, List.replicate, List.cons_append, List.nil_append, List.length_cons, List.length_nil, Bool.false_eq_true, eq_self, if_true, if_false, Nat.zero_add, Jt, Yz, Ju, Jv, Jw, Y0, Jx, true_and]
      exact ⟨_, _, _, _, _, rfl, rfl⟩
    have fin : ∀ (c' : Ct) (s2 : Sto), (∃ (w : Str → Int) (v6 v7 v8 v9 : Option Dv), c' = .next [some (encC c), some (.str name), some (.loc n), v3, some (.loc s.length), some (.loc (s.length + 1)), v6, v7, v8, v9, v10, v11, v12, v13] ∧ s2 = s ++ [.lst ((laidF c name pl i).map encL ++ [encL (ownF pl i p, numF name pl i p)]), .dk (nmKv c.lots w)]) → (match c' with
      | .next e => ∃ (w : Str → Int) (v6 v7 v8 v9 : Option Dv), e = [some (encC c), some (.str name), some (.loc n), v3, some (.loc s.length), some (.loc (s.length + 1)), v6, v7, v8, v9, v10, v11, v12, v13] ∧ s2 = s ++ [.lst ((laidF c name pl i).map encL ++ [encL (ownF pl i p, numF name pl i p)]), .dk (nmKv c.lots w)]
      | .cont e => ∃ (w : Str → Int) (v6 v7 v8 v9 : Option Dv), e = [some (encC c), some (.str name), some (.loc n), v3, some (.loc s.length), some (.loc (s.length + 1)), v6, v7, v8, v9, v10, v11, v12, v13] ∧ s2 = s ++ [.lst ((laidF c name pl i).map encL ++ [encL (ownF pl i p, numF name pl i p)]), .dk (nmKv c.lots w)]
      | .brk e => R (.next e) s2
      | .ret r => R (.ret r) s2) := by
      rintro c' s2 ⟨w, v6, v7, v8, v9, rfl, rfl⟩
      exact ⟨_, _, _, _, _, rfl, rfl⟩
    have rest2 := rest.mono fin
    generalize fPut (fVar 5) (fVar 8) (fBin gSub (fBin gIx (fVar 5) (fVar 8)) (fVar 9)) = bp at rest2
    generalize fDrop (fMt isL gAppend (fVar 4) (fCons (fTup (fCons (fVar 8) (fCons (fVar 9) (fNil)))) (fNil))) = ba at rest2
    rw [J5] at rest2
    have en : ∀ v : Int, numF name pl i p = v → v = numF name pl i p := fun v h => h.symm
    simp only [Y1, Qf, Qt, Qu, Qa, Qg, Qv, Qw, Qx, Qy, Qh, Qz, Jy, Qi, Qb, Qj, Qk, Q0, Jz, Q1, Q2, J0, Q3, Q4, J1, Ql, Qm, Qn, Q5, Qo, Q6, Qp, Q7, Q8, J2, Q9, Ja, J3, J4, J5, Jb, J6, J7, Jc, J8, J9, Jd, Je, Ya, Jf, Yb, Jg, Jh, Y8, Yc, Ji, Yd, Ye, Yf, Yg, Yh, Y2, Jj, Qq, Jk, Yi, Jl, Jm, Yj, Y3, Yk, Yl, Y4, Ym, Y5, Yn, Qc, Yo, Jn, Yp, Yq, Y6, Yr, Qd, Jo, Jp, Y7, Ys, Yt, Yu, Yv, Yw, Yx, Jq, Jr, Qr, Js, Yy, Qe, Qs, List.set_cons_zero, List.set_cons_succ, List.map_cons, List.map_nil, List.replicate, List.cons_append, List.nil_append, List.length_cons, List.length_nil, Bool.false_eq_true, eq_self, if_true, if_false, Nat.zero_add, Jt, Yz, Ju, Jv, Jw, Y0, Jx, true_and, eq_str]
    by_cases ho : ownF pl i p = name
    · have e : numF name pl i p = p.many + p.slip := by unfold numF; rw [if_pos ho]
      rw [show (ownF pl i p == name) = true by rw [beq_iff_eq]; exact ho]
      rw [e] at rest2
      simp only [Y1, Qf, Qt, Qu, Qa, Qg, Qv, Qw, Qx, Qy, Qh, Qz, Jy, Qi, Qb, Qj, Qk, Q0, Jz, Q1, Q2, J0, Q3, Q4, J1, Ql, Qm, Qn, Q5, Qo, Q6, Qp, Q7, Q8, J2, Q9, Ja, J3, J4, J5, Jb, J6, J7, Jc, J8, J9, Jd, Je, Ya, Jf, Yb, Jg, Jh, Y8, Yc, Ji, Yd, Ye, Yf, Yg, Yh, Y2, Jj, Qq, Jk, Yi, Jl, Jm, Yj, Y3, Yk, Yl, Y4, Ym, Y5, Yn, Qc, Yo, Jn, Yp, Yq, Y6, Yr, Qd, Jo, Jp, Y7, Ys, Yt, Yu, Yv, Yw, Yx, Jq, Jr, Qr, Js, Yy, Qe, Qs, List.set_cons_zero, List.set_cons_succ, List.map_cons, List.map_nil, List.replicate, List.cons_append, List.nil_append, List.length_cons, List.length_nil, Bool.false_eq_true, eq_self, if_true, if_false, Nat.zero_add, Jt, Yz, Ju, Jv, Jw, Y0, Jx, true_and, ixP1, ixP2, add_int]
      rw [e]
      exact rest2
    · have e : numF name pl i p = lowP p := by unfold numF; rw [if_neg ho]
      rw [show (ownF pl i p == name) = false by rw [beq_eq_false_iff_ne]; exact ho]
      rw [e] at rest2
      simp only [Y1, Qf, Qt, Qu, Qa, Qg, Qv, Qw, Qx, Qy, Qh, Qz, Jy, Qi, Qb, Qj, Qk, Q0, Jz, Q1, Q2, J0, Q3, Q4, J1, Ql, Qm, Qn, Q5, Qo, Q6, Qp, Q7, Q8, J2, Q9, Ja, J3, J4, J5, Jb, J6, J7, Jc, J8, J9, Jd, Je, Ya, Jf, Yb, Jg, Jh, Y8, Yc, Ji, Yd, Ye, Yf, Yg, Yh, Y2, Jj, Qq, Jk, Yi, Jl, Jm, Yj, Y3, Yk, Yl, Y4, Ym, Y5, Yn, Qc, Yo, Jn, Yp, Yq, Y6, Yr, Qd, Jo, Jp, Y7, Ys, Yt, Yu, Yv, Yw, Yx, Jq, Jr, Qr, Js, Yy, Qe, Qs, List.set_cons_zero, List.set_cons_succ, List.map_cons, List.map_nil, List.replicate, List.cons_append, List.nil_append, List.length_cons, List.length_nil, Bool.false_eq_true, eq_self, if_true, if_false, Nat.zero_add, Jt, Yz, Ju, Jv, Jw, Y0, Jx, true_and]
      refine hl p _ _ ?_
      simp only [Y1, Qf, Qt, Qu, Qa, Qg, Qv, Qw, Qx, Qy, Qh, Qz, Jy, Qi, Qb, Qj, Qk, Q0, Jz, Q1, Q2, J0, Q3, Q4, J1, Ql, Qm, Qn, Q5, Qo, Q6, Qp, Q7, Q8, J2, Q9, Ja, J3, J4, J5, Jb, J6, J7, Jc, J8, J9, Jd, Je, Ya, Jf, Yb, Jg, Jh, Y8, Yc, Ji, Yd, Ye, Yf, Yg, Yh, Y2, Jj, Qq, Jk, Yi, Jl, Jm, Yj, Y3, Yk, Yl, Y4, Ym, Y5, Yn, Qc, Yo, Jn, Yp, Yq, Y6, Yr, Qd, Jo, Jp, Y7, Ys, Yt, Yu, Yv, Yw, Yx, Jq, Jr, Qr, Js, Yy, Qe, Qs, List.set_cons_zero, List.set_cons_succ, List.map_cons, List.map_nil, List.replicate, List.cons_append, List.nil_append, List.length_cons, List.length_nil, Bool.false_eq_true, eq_self, if_true, if_false, Nat.zero_add, Jt, Yz, Ju, Jv, Jw, Y0, Jx, true_and]
      rw [e]
      exact rest2
  · obtain ⟨w, v6, v7, v8, v9, rfl, rfl⟩ := q
    rw [enumD_len, List.length_map]
    exact hR w _ _ _ _
end Z

namespace Z
open PySem PySem.Spec L2

/-! ### end_of, whole: the piles as laid, some names for the doubts -/
def bEnd2 (φs : Phi) : Fn Ct := (fFor (fEnum (fCons (fBin gIx (fVar 0) (fC (.int 2))) (fNil))) (gTp 2 (gsCons (gNm 11) (gsCons (gNm 12) (gsNil)))) (fIfS (fTest (fBin gNotIn (fVar 1) (fVar 12))) (fDrop (fCall φs (fCons (fVar 0) (fCons (fVar 11) (fCons (fVar 5) (fCons (fVar 10) (fCons (fDict0) (fNil)))))))) (fNop)))
def bEnd3 : Fn Ct := (fRet (fTup (fCons (fCall gTuple (fCons (fVar 4) (fNil))) (fCons (fCall gTuple (fCons (fVal (fLc (fRng1 (fCons (fCall gLen (fCons (fBin gIx (fVar 0) (fC (.int 2))) (fNil))) (fNil))) [11] (gNm 11) (fYes) (fGet2 (fVar 10) (fVar 11) (fVar 1)))) (fNil))) (fNil)))))
structure EndI (c : Cnt) (S0 s' : Sto) (a : Nat) (g : List (Nat × Str)) : Prop where
  giv : s'[a + 2]? = some (.dk (plK g))
  gok : GOK c g
  old : ∀ m, m < a + 2 → s'[m]? = S0[m]?
theorem end2_spec {φs : Phi} {b : Fn Ct} (hb : b = bEnd2 φs) {j : Nat} (hj : 7 ≤ j) (hS : SeatS j φs) {c : Cnt} (hc : CntB c) {name : Str} {a : Nat} {w : Str → Int} {S0 s : Sto} (hf : S0[a + 1]? = some (.dk (nmKv c.lots w))) {g : List (Nat × Str)} (hE : EndI c S0 s a g) {v2 v3 v4 v6 v7 v8 v9 v11 v12 v13 : Option Dv} {R : Ct → Sto → Prop}
    (hR : ∀ (s' : Sto) (g : List (Nat × Str)) (v11 v12 : Option Dv), EndI c S0 s' a g → R (.next [some (encC c), some (.str name), v2, v3, v4, some (.loc (a + 1)), v6, v7, v8, v9, some (.loc (a + 2)), v11, v12, v13]) s') :
    OkE nX (b [some (encC c), some (.str name), v2, v3, v4, some (.loc (a + 1)), v6, v7, v8, v9, some (.loc (a + 2)), v11, v12, v13] s) R := by
  subst hb
  unfold bEnd2
  simp only [Y1, Qf, Qt, Qu, Qa, Qg, Qv, Qw, Qx, Qy, Qh, Qz, Jy, Qi, Qb, Qj, Qk, Q0, Jz, Q1, Q2, J0, Q3, Q4, J1, Ql, Qm, Qn, Q5, Qo, Q6, Qp, Q7, Q8, J2, Q9, Ja, J3, J4, J5, Jb, J6, J7, Jc, J8, J9, Jd, Je, Ya, Jf, Yb, Jg, Jh, Y8, Yc, Ji, Yd, Ye, Yf, Yg, Yh, Y2, Jj, Qq, Jk, Yi, Jl, Jm, Yj, Y3, Yk, Yl, Y4, Ym, Y5, Yn, Qc, Yo, Jn, Yp, Yq, Y6, Yr, Qd, Jo, Jp, Y7, Ys, Yt, Yu, Yv, Yw, Yx, Jq, Jr, Qr, Js, Yy, Qe, Qs, List.set_cons_zero, List.set_cons_succ, List.map_cons, List.map_nil, List.replicate, List.cons_append, List.nil_append, List.length_cons, List.length_nil, Bool.false_eq_true, eq_self, if_true, if_false, Nat.zero_add, Jt, Yz, Ju, Jv, Jw, Y0, Jx, true_and, ok_enum, ixC2]
  refine kEnum_tup ?_
  refine ok_loop (fun i env s' => ∃ (g : List (Nat × Str)) (v11 v12 : Option Dv), env = [some (encC c), some (.str name), v2, v3, v4, some (.loc (a + 1)), v6, v7, v8, v9, some (.loc (a + 2)), v11, v12, v13] ∧ EndI c S0 s' a g)
    (fun _ _ _ _ => rfl) (fun i d env s' hd q => ?_) (fun env s' q => ?_) ⟨g, v11, v12, rfl, hE⟩
  · obtain ⟨g, v11, v12, rfl, hE⟩ := q
    obtain ⟨d2, hd2, rfl⟩ := enumD_get hd
    rw [List.getElem?_map] at hd2
    obtain ⟨dd, hdd, rfl⟩ := Option.map_eq_some_iff.mp hd2
    have hk := (List.getElem?_eq_some_iff.mp hdd).1
    simp only [Y1, Qf, Qt, Qu, Qa, Qg, Qv, Qw, Qx, Qy, Qh, Qz, Jy, Qi, Qb, Qj, Qk, Q0, Jz, Q1, Q2, J0, Q3, Q4, J1, Ql, Qm, Qn, Q5, Qo, Q6, Qp, Q7, Q8, J2, Q9, Ja, J3, J4, J5, Jb, J6, J7, Jc, J8, J9, Jd, Je, Ya, Jf, Yb, Jg, Jh, Y8, Yc, Ji, Yd, Ye, Yf, Yg, Yh, Y2, Jj, Qq, Jk, Yi, Jl, Jm, Yj, Y3, Yk, Yl, Y4, Ym, Y5, Yn, Qc, Yo, Jn, Yp, Yq, Y6, Yr, Qd, Jo, Jp, Y7, Ys, Yt, Yu, Yv, Yw, Yx, Jq, Jr, Qr, Js, Yy, Qe, Qs, List.set_cons_zero, List.set_cons_succ, List.map_cons, List.map_nil, List.replicate, List.cons_append, List.nil_append, List.length_cons, List.length_nil, Bool.false_eq_true, eq_self, if_true, if_false, Nat.zero_add, Jt, Yz, Ju, Jv, Jw, Y0, Jx, true_and, notin_strs]
    refine ⟨rfl, ?_⟩
    by_cases hm : name ∈ dd
    · rw [decide_eq_true hm]
      simp only [Y1, Qf, Qt, Qu, Qa, Qg, Qv, Qw, Qx, Qy, Qh, Qz, Jy, Qi, Qb, Qj, Qk, Q0, Jz, Q1, Q2, J0, Q3, Q4, J1, Ql, Qm, Qn, Q5, Qo, Q6, Qp, Q7, Q8, J2, Q9, Ja, J3, J4, J5, Jb, J6, J7, Jc, J8, J9, Jd, Je, Ya, Jf, Yb, Jg, Jh, Y8, Yc, Ji, Yd, Ye, Yf, Yg, Yh, Y2, Jj, Qq, Jk, Yi, Jl, Jm, Yj, Y3, Yk, Yl, Y4, Ym, Y5, Yn, Qc, Yo, Jn, Yp, Yq, Y6, Yr, Qd, Jo, Jp, Y7, Ys, Yt, Yu, Yv, Yw, Yx, Jq, Jr, Qr, Js, Yy, Qe, Qs, List.set_cons_zero, List.set_cons_succ, List.map_cons, List.map_nil, List.replicate, List.cons_append, List.nil_append, List.length_cons, List.length_nil, Bool.false_eq_true, eq_self, if_true, if_false, Nat.zero_add, Jt, Yz, Ju, Jv, Jw, Y0, Jx, true_and, Bool.not_true]
      exact ⟨g, _, _, rfl, hE⟩
    · rw [decide_eq_false hm]
      simp only [Y1, Qf, Qt, Qu, Qa, Qg, Qv, Qw, Qx, Qy, Qh, Qz, Jy, Qi, Qb, Qj, Qk, Q0, Jz, Q1, Q2, J0, Q3, Q4, J1, Ql, Qm, Qn, Q5, Qo, Q6, Qp, Q7, Q8, J2, Q9, Ja, J3, J4, J5, Jb, J6, J7, Jc, J8, J9, Jd, Je, Ya, Jf, Yb, Jg, Jh, Y8, Yc, Ji, Yd, Ye, Yf, Yg, Yh, Y2, Jj, Qq, Jk, Yi, Jl, Jm, Yj, Y3, Yk, Yl, Y4, Ym, Y5, Yn, Qc, Yo, Jn, Yp, Yq, Y6, Yr, Qd, Jo, Jp, Y7, Ys, Yt, Yu, Yv, Yw, Yx, Jq, Jr, Qr, Js, Yy, Qe, Qs, List.set_cons_zero, List.set_cons_succ, List.map_cons, List.map_nil, List.replicate, List.cons_append, List.nil_append, List.length_cons, List.length_nil, Bool.false_eq_true, eq_self, if_true, if_false, Nat.zero_add, Jt, Yz, Ju, Jv, Jw, Y0, Jx, true_and, Bool.not_false, ok_dict0A]
      have hgl := (List.getElem?_eq_some_iff.mp hE.giv).1
      have up : ∀ m o, s'[m]? = some o → (s' ++ [Ob.dk []])[m]? = some o := fun m o h => by rw [List.getElem?_append_left (List.getElem?_eq_some_iff.mp h).1]; exact h
      have hfr : s'[a + 1]? = some (.dk (nmKv c.lots w)) := by rw [hE.old _ (by omega)]; exact hf
      have hseat : Seat c w (s' ++ [Ob.dk []]) (a + 1) (a + 2) s'.length g [] := ⟨up _ _ hfr, up _ _ hE.giv, bs_get, by omega, by omega, by omega, hE.gok, List.nodup_nil, fun x hx => (by cases hx)⟩
      refine (hS c w _ (a + 1) (a + 2) s'.length g [] i hc hseat hk (by simp only [List.length_nil]; omega)).mono ?_
      rintro d s2 ⟨b, g', ts', rfl, h1, h2, _⟩
      simp only [Y1, Qf, Qt, Qu, Qa, Qg, Qv, Qw, Qx, Qy, Qh, Qz, Jy, Qi, Qb, Qj, Qk, Q0, Jz, Q1, Q2, J0, Q3, Q4, J1, Ql, Qm, Qn, Q5, Qo, Q6, Qp, Q7, Q8, J2, Q9, Ja, J3, J4, J5, Jb, J6, J7, Jc, J8, J9, Jd, Je, Ya, Jf, Yb, Jg, Jh, Y8, Yc, Ji, Yd, Ye, Yf, Yg, Yh, Y2, Jj, Qq, Jk, Yi, Jl, Jm, Yj, Y3, Yk, Yl, Y4, Ym, Y5, Yn, Qc, Yo, Jn, Yp, Yq, Y6, Yr, Qd, Jo, Jp, Y7, Ys, Yt, Yu, Yv, Yw, Yx, Jq, Jr, Qr, Js, Yy, Qe, Qs, List.set_cons_zero, List.set_cons_succ, List.map_cons, List.map_nil, List.replicate, List.cons_append, List.nil_append, List.length_cons, List.length_nil, Bool.false_eq_true, eq_self, if_true, if_false, Nat.zero_add, Jt, Yz, Ju, Jv, Jw, Y0, Jx, true_and]
      refine ⟨g', _, _, rfl, h1.giv, h1.gok, fun m hm' => ?_⟩
      rw [h2.same m (by omega) (by omega), List.getElem?_append_left (by omega)]
      exact hE.old m hm'
  · obtain ⟨g, v11, v12, rfl, hE⟩ := q
    exact hR _ g _ _ hE
theorem rng_natM (n : Nat) : rngD 0 (Int.toNat (n : Int)) = (List.range n).map fun j : Nat => Dv.int (j : Int) := by
  unfold rngD
  rw [Int.toNat_natCast]
  exact List.map_congr_left fun j _ => by rw [Int.zero_add]
theorem sto_pre {s s' : Sto} (hl : s.length ≤ s'.length) (h : ∀ m, m < s.length → s'[m]? = s[m]?) : ∃ l, s' = s ++ l := by
  refine ⟨s'.drop s.length, ?_⟩
  conv => lhs; rw [← List.take_append_drop s.length s']
  congr 1
  refine List.ext_getElem? fun m => ?_
  rw [List.getElem?_take]
  by_cases hm : m < s.length
  · rw [if_pos hm, h m hm]
  · rw [if_neg hm, List.getElem?_eq_none (by omega)]
def givF (c : Cnt) (name : Str) (g : List (Nat × Str)) : List Str := (List.range c.doubts.length).map fun k => (lookP g k).getD name
theorem end3_spec {b : Fn Ct} (hb : b = bEnd3) {c : Cnt} (hc : CntB c) {name : Str} {a : Nat} {laid : List (Str × Int)} {S0 s : Sto} (hf : S0[a]? = some (.lst (laid.map encL))) {g : List (Nat × Str)} (hE : EndI c S0 s a g) {v2 v3 v5 v6 v7 v8 v9 v11 v12 v13 : Option Dv} {R : Ct → Sto → Prop}
    (hR : R (.ret (encE laid (givF c name g))) s) :
    OkE nX (b [some (encC c), some (.str name), v2, v3, some (.loc a), v5, v6, v7, v8, v9, some (.loc (a + 2)), v11, v12, v13] s) R := by
  subst hb
  have nd := hc.ndoubts
  have hL : s[a]? = some (.lst (laid.map encL)) := by rw [hE.old a (by omega)]; exact hf
  unfold bEnd3
  simp only [Y1, Qf, Qt, Qu, Qa, Qg, Qv, Qw, Qx, Qy, Qh, Qz, Jy, Qi, Qb, Qj, Qk, Q0, Jz, Q1, Q2, J0, Q3, Q4, J1, Ql, Qm, Qn, Q5, Qo, Q6, Qp, Q7, Q8, J2, Q9, Ja, J3, J4, J5, Jb, J6, J7, Jc, J8, J9, Jd, Je, Ya, Jf, Yb, Jg, Jh, Y8, Yc, Ji, Yd, Ye, Yf, Yg, Yh, Y2, Jj, Qq, Jk, Yi, Jl, Jm, Yj, Y3, Yk, Yl, Y4, Ym, Y5, Yn, Qc, Yo, Jn, Yp, Yq, Y6, Yr, Qd, Jo, Jp, Y7, Ys, Yt, Yu, Yv, Yw, Yx, Jq, Jr, Qr, Js, Yy, Qe, Qs, List.set_cons_zero, List.set_cons_succ, List.map_cons, List.map_nil, List.replicate, List.cons_append, List.nil_append, List.length_cons, List.length_nil, Bool.false_eq_true, eq_self, if_true, if_false, Nat.zero_add, Jt, Yz, Ju, Jv, Jw, Y0, Jx, true_and, tuple_loc hL, ixC2, len_tup, List.length_map]
  refine ⟨inRng_small (by omega) (by omega), ?_⟩
  refine ⟨decide_eq_true (by rw [rngD_len, Int.toNat_natCast]; omega), ?_⟩
  rw [rng_natM]
  refine ok_pick (xs := List.range c.doubts.length) (enc := fun j : Nat => Dv.int (j : Int)) (p := fun _ => true) (f := fun k : Nat => Dv.str ((lookP g k).getD name)) (fun k hk => ?_) ?_
  · have eg := get2_pl (fo := fVar 10) (fe := fVar 11) (ff := fVar 1) (env := [some (encC c), some (.str name), v2, v3, some (.loc a), v5, v6, v7, v8, v9, some (.loc (a + 2)), some (.int ((k : Nat) : Int)), v12, v13]) (k := k) (z := name) hE.giv rfl rfl rfl
    simp only [Y1, Qf, Qt, Qu, Qa, Qg, Qv, Qw, Qx, Qy, Qh, Qz, Jy, Qi, Qb, Qj, Qk, Q0, Jz, Q1, Q2, J0, Q3, Q4, J1, Ql, Qm, Qn, Q5, Qo, Q6, Qp, Q7, Q8, J2, Q9, Ja, J3, J4, J5, Jb, J6, J7, Jc, J8, J9, Jd, Je, Ya, Jf, Yb, Jg, Jh, Y8, Yc, Ji, Yd, Ye, Yf, Yg, Yh, Y2, Jj, Qq, Jk, Yi, Jl, Jm, Yj, Y3, Yk, Yl, Y4, Ym, Y5, Yn, Qc, Yo, Jn, Yp, Yq, Y6, Yr, Qd, Jo, Jp, Y7, Ys, Yt, Yu, Yv, Yw, Yx, Jq, Jr, Qr, Js, Yy, Qe, Qs, List.set_cons_zero, List.set_cons_succ, List.map_cons, List.map_nil, List.replicate, List.cons_append, List.nil_append, List.length_cons, List.length_nil, Bool.false_eq_true, eq_self, if_true, if_false, Nat.zero_add, Jt, Yz, Ju, Jv, Jw, Y0, Jx, true_and, wipeZ]
    refine fun _ => ?_
    rw [eg, Y1]
    first | exact ⟨rfl, rfl⟩ | trivial
  rw [filter_yes]
  simp only [Y1, Qf, Qt, Qu, Qa, Qg, Qv, Qw, Qx, Qy, Qh, Qz, Jy, Qi, Qb, Qj, Qk, Q0, Jz, Q1, Q2, J0, Q3, Q4, J1, Ql, Qm, Qn, Q5, Qo, Q6, Qp, Q7, Q8, J2, Q9, Ja, J3, J4, J5, Jb, J6, J7, Jc, J8, J9, Jd, Je, Ya, Jf, Yb, Jg, Jh, Y8, Yc, Ji, Yd, Ye, Yf, Yg, Yh, Y2, Jj, Qq, Jk, Yi, Jl, Jm, Yj, Y3, Yk, Yl, Y4, Ym, Y5, Yn, Qc, Yo, Jn, Yp, Yq, Y6, Yr, Qd, Jo, Jp, Y7, Ys, Yt, Yu, Yv, Yw, Yx, Jq, Jr, Qr, Js, Yy, Qe, Qs, List.set_cons_zero, List.set_cons_succ, List.map_cons, List.map_nil, List.replicate, List.cons_append, List.nil_append, List.length_cons, List.length_nil, Bool.false_eq_true, eq_self, if_true, if_false, Nat.zero_add, Jt, Yz, Ju, Jv, Jw, Y0, Jx, true_and, tuple_ls]
  repeat (refine ⟨by decide, ?_⟩)
  have e : ((List.range c.doubts.length).map fun k : Nat => Dv.str ((lookP g k).getD name)) = (givF c name g).map .str := by
    unfold givF
    rw [List.map_map]; rfl
  rw [e]
  exact hR
def bEnd (φg φr : Phi) (b1 b2 b3 : Fn Ct) : Fn Ct :=
  fSeq (fSet 3 (fCall φg (fCons (fVar 0) (fCons (fVar 1) (fCons (fVar 2) (fNil))))))
  (fSeq (fSet 4 (fNew (fLst (fNil))))
  (fSeq (fSet 5 (fCall gDictP (fCons (fVal (fLc (fSrc (fBin gIx (fVar 0) (fC (.int 0)))) [13] (gNm 13) (fYes) (fTup (fCons (fVar 13) (fCons (fCall φr (fCons (fVar 0) (fCons (fVar 1) (fCons (fVar 3) (fCons (fVar 13) (fNil)))))) (fNil)))))) (fNil))))
  (fSeq b1
  (fSeq (fSet 10 (fDict0))
  (fSeq b2 b3)))))
def EndOfS (φ : Phi) : Prop := ∀ (c : Cnt) (name : Str) (pl : List (Nat × Str)) (n : Nat) (s : Sto) (T : Dv → Sto → Prop), CntB c → name ∈ c.lots → PlIn c pl → Cl s → s[n]? = some (.dk (plK pl)) → (∀ g, GOK c g → T (encE (laidF c name pl c.piles.length) (givF c name g)) s) → OkE nX (φ [encC c, .str name, .loc n] s) T
theorem endOf_spec {φg φr φl φs : Phi} {b1 b2 b3 : Fn Ct} (h1 : b1 = bEnd1 φl) (h2 : b2 = bEnd2 φs) (h3 : b3 = bEnd3) (hg : GreatForS φg) (hr : RoomS φr) (hl : LeastP φl) {j : Nat} (hj : 7 ≤ j) (hS : SeatS j φs) : EndOfS (fDef 3 14 (bEnd φg φr b1 b2 b3)) := by
  intro c name pl n s T hc hn hpl hf hs hT
  have l6 := hc.len6
  rw [ok_def]
  refine ⟨rfl, ?_⟩
  unfold bEnd
  simp only [Y1, Qf, Qt, Qu, Qa, Qg, Qv, Qw, Qx, Qy, Qh, Qz, Jy, Qi, Qb, Qj, Qk, Q0, Jz, Q1, Q2, J0, Q3, Q4, J1, Ql, Qm, Qn, Q5, Qo, Q6, Qp, Q7, Q8, J2, Q9, Ja, J3, J4, J5, Jb, J6, J7, Jc, J8, J9, Jd, Je, Ya, Jf, Yb, Jg, Jh, Y8, Yc, Ji, Yd, Ye, Yf, Yg, Yh, Y2, Jj, Qq, Jk, Yi, Jl, Jm, Yj, Y3, Yk, Yl, Y4, Ym, Y5, Yn, Qc, Yo, Jn, Yp, Yq, Y6, Yr, Qd, Jo, Jp, Y7, Ys, Yt, Yu, Yv, Yw, Yx, Jq, Jr, Qr, Js, Yy, Qe, Qs, List.set_cons_zero, List.set_cons_succ, List.map_cons, List.map_nil, List.replicate, List.cons_append, List.nil_append, List.length_cons, List.length_nil, Bool.false_eq_true, eq_self, if_true, if_false, Nat.zero_add, Jt, Yz, Ju, Jv, Jw, Y0, Jx, true_and]
  refine hg c name pl n s _ hc hs ?_
  simp only [Y1, Qf, Qt, Qu, Qa, Qg, Qv, Qw, Qx, Qy, Qh, Qz, Jy, Qi, Qb, Qj, Qk, Q0, Jz, Q1, Q2, J0, Q3, Q4, J1, Ql, Qm, Qn, Q5, Qo, Q6, Qp, Q7, Q8, J2, Q9, Ja, J3, J4, J5, Jb, J6, J7, Jc, J8, J9, Jd, Je, Ya, Jf, Yb, Jg, Jh, Y8, Yc, Ji, Yd, Ye, Yf, Yg, Yh, Y2, Jj, Qq, Jk, Yi, Jl, Jm, Yj, Y3, Yk, Yl, Y4, Ym, Y5, Yn, Qc, Yo, Jn, Yp, Yq, Y6, Yr, Qd, Jo, Jp, Y7, Ys, Yt, Yu, Yv, Yw, Yx, Jq, Jr, Qr, Js, Yy, Qe, Qs, List.set_cons_zero, List.set_cons_succ, List.map_cons, List.map_nil, List.replicate, List.cons_append, List.nil_append, List.length_cons, List.length_nil, Bool.false_eq_true, eq_self, if_true, if_false, Nat.zero_add, Jt, Yz, Ju, Jv, Jw, Y0, Jx, true_and]
  repeat (refine ⟨by decide, ?_⟩)
  simp only [Y1, Qf, Qt, Qu, Qa, Qg, Qv, Qw, Qx, Qy, Qh, Qz, Jy, Qi, Qb, Qj, Qk, Q0, Jz, Q1, Q2, J0, Q3, Q4, J1, Ql, Qm, Qn, Q5, Qo, Q6, Qp, Q7, Q8, J2, Q9, Ja, J3, J4, J5, Jb, J6, J7, Jc, J8, J9, Jd, Je, Ya, Jf, Yb, Jg, Jh, Y8, Yc, Ji, Yd, Ye, Yf, Yg, Yh, Y2, Jj, Qq, Jk, Yi, Jl, Jm, Yj, Y3, Yk, Yl, Y4, Ym, Y5, Yn, Qc, Yo, Jn, Yp, Yq, Y6, Yr, Qd, Jo, Jp, Y7, Ys, Yt, Yu, Yv, Yw, Yx, Jq, Jr, Qr, Js, Yy, Qe, Qs, List.set_cons_zero, List.set_cons_succ, List.map_cons, List.map_nil, List.replicate, List.cons_append, List.nil_append, List.length_cons, List.length_nil, Bool.false_eq_true, eq_self, if_true, if_false, Nat.zero_add, Jt, Yz, Ju, Jv, Jw, Y0, Jx, true_and, ixC0]
  refine ⟨decide_eq_true (by rw [List.length_map]; omega), ?_⟩
  refine ok_pick (xs := c.lots) (enc := Dv.str) (p := fun _ => true) (f := fun o => Dv.tup [.str o, .int (greatF c name pl - aheadI c name o)]) (fun o ho => ?_) ?_
  · simp only [Y1, Qf, Qt, Qu, Qa, Qg, Qv, Qw, Qx, Qy, Qh, Qz, Jy, Qi, Qb, Qj, Qk, Q0, Jz, Q1, Q2, J0, Q3, Q4, J1, Ql, Qm, Qn, Q5, Qo, Q6, Qp, Q7, Q8, J2, Q9, Ja, J3, J4, J5, Jb, J6, J7, Jc, J8, J9, Jd, Je, Ya, Jf, Yb, Jg, Jh, Y8, Yc, Ji, Yd, Ye, Yf, Yg, Yh, Y2, Jj, Qq, Jk, Yi, Jl, Jm, Yj, Y3, Yk, Yl, Y4, Ym, Y5, Yn, Qc, Yo, Jn, Yp, Yq, Y6, Yr, Qd, Jo, Jp, Y7, Ys, Yt, Yu, Yv, Yw, Yx, Jq, Jr, Qr, Js, Yy, Qe, Qs, List.set_cons_zero, List.set_cons_succ, List.map_cons, List.map_nil, List.replicate, List.cons_append, List.nil_append, List.length_cons, List.length_nil, Bool.false_eq_true, eq_self, if_true, if_false, Nat.zero_add, Jt, Yz, Ju, Jv, Jw, Y0, Jx, true_and, wipeZ]
    refine fun _ => ?_
    refine hr c name o _ _ _ hn ho ?_
    simp only [Y1, Qf, Qt, Qu, Qa, Qg, Qv, Qw, Qx, Qy, Qh, Qz, Jy, Qi, Qb, Qj, Qk, Q0, Jz, Q1, Q2, J0, Q3, Q4, J1, Ql, Qm, Qn, Q5, Qo, Q6, Qp, Q7, Q8, J2, Q9, Ja, J3, J4, J5, Jb, J6, J7, Jc, J8, J9, Jd, Je, Ya, Jf, Yb, Jg, Jh, Y8, Yc, Ji, Yd, Ye, Yf, Yg, Yh, Y2, Jj, Qq, Jk, Yi, Jl, Jm, Yj, Y3, Yk, Yl, Y4, Ym, Y5, Yn, Qc, Yo, Jn, Yp, Yq, Y6, Yr, Qd, Jo, Jp, Y7, Ys, Yt, Yu, Yv, Yw, Yx, Jq, Jr, Qr, Js, Yy, Qe, Qs, List.set_cons_zero, List.set_cons_succ, List.map_cons, List.map_nil, List.replicate, List.cons_append, List.nil_append, List.length_cons, List.length_nil, Bool.false_eq_true, eq_self, if_true, if_false, Nat.zero_add, Jt, Yz, Ju, Jv, Jw, Y0, Jx, true_and]
    first | exact ⟨rfl, rfl⟩ | trivial | exact ⟨by decide, rfl, rfl⟩ | exact ⟨rfl, trivial⟩
  rw [filter_yes]
  simp only [Y1, Qf, Qt, Qu, Qa, Qg, Qv, Qw, Qx, Qy, Qh, Qz, Jy, Qi, Qb, Qj, Qk, Q0, Jz, Q1, Q2, J0, Q3, Q4, J1, Ql, Qm, Qn, Q5, Qo, Q6, Qp, Q7, Q8, J2, Q9, Ja, J3, J4, J5, Jb, J6, J7, Jc, J8, J9, Jd, Je, Ya, Jf, Yb, Jg, Jh, Y8, Yc, Ji, Yd, Ye, Yf, Yg, Yh, Y2, Jj, Qq, Jk, Yi, Jl, Jm, Yj, Y3, Yk, Yl, Y4, Ym, Y5, Yn, Qc, Yo, Jn, Yp, Yq, Y6, Yr, Qd, Jo, Jp, Y7, Ys, Yt, Yu, Yv, Yw, Yx, Jq, Jr, Qr, Js, Yy, Qe, Qs, List.set_cons_zero, List.set_cons_succ, List.map_cons, List.map_nil, List.replicate, List.cons_append, List.nil_append, List.length_cons, List.length_nil, Bool.false_eq_true, eq_self, if_true, if_false, Nat.zero_add, Jt, Yz, Ju, Jv, Jw, Y0, Jx, true_and, dict_nm (v := fun o => greatF c name pl - aheadI c name o) hc.nd]
  have e1 : (s ++ [Ob.lst []]).length = s.length + 1 := by rw [List.length_append]; rfl
  rw [List.append_assoc, e1]
  refine end1_spec h1 hl hc hpl hs fun w v6 v7 v8 v9 => ?_
  simp only [Y1, Qf, Qt, Qu, Qa, Qg, Qv, Qw, Qx, Qy, Qh, Qz, Jy, Qi, Qb, Qj, Qk, Q0, Jz, Q1, Q2, J0, Q3, Q4, J1, Ql, Qm, Qn, Q5, Qo, Q6, Qp, Q7, Q8, J2, Q9, Ja, J3, J4, J5, Jb, J6, J7, Jc, J8, J9, Jd, Je, Ya, Jf, Yb, Jg, Jh, Y8, Yc, Ji, Yd, Ye, Yf, Yg, Yh, Y2, Jj, Qq, Jk, Yi, Jl, Jm, Yj, Y3, Yk, Yl, Y4, Ym, Y5, Yn, Qc, Yo, Jn, Yp, Yq, Y6, Yr, Qd, Jo, Jp, Y7, Ys, Yt, Yu, Yv, Yw, Yx, Jq, Jr, Qr, Js, Yy, Qe, Qs, List.set_cons_zero, List.set_cons_succ, List.map_cons, List.map_nil, List.replicate, List.cons_append, List.nil_append, List.length_cons, List.length_nil, Bool.false_eq_true, eq_self, if_true, if_false, Nat.zero_add, Jt, Yz, Ju, Jv, Jw, Y0, Jx, true_and, ok_dict0A]
  have e2 : (s ++ [Ob.lst ((laidF c name pl c.piles.length).map encL), .dk (nmKv c.lots w)]).length = s.length + 2 := by rw [List.length_append]; rfl
  rw [e2]
  refine end2_spec (a := s.length) h2 hj hS hc (S0 := s ++ [Ob.lst ((laidF c name pl c.piles.length).map encL), .dk (nmKv c.lots w)]) (w := w) ?_ (g := []) ⟨?_, ⟨fun x hx => (by cases hx), List.nodup_nil⟩, fun m hm => ?_⟩ fun s' g v11 v12 hE => ?_
  · rw [List.getElem?_append_right (by omega), show s.length + 1 - s.length = 1 by omega]; rfl
  · rw [List.getElem?_append_right (by omega), e2, Nat.sub_self]; rfl
  · rw [List.getElem?_append_left (by omega)]
  · simp only [Y1, Qf, Qt, Qu, Qa, Qg, Qv, Qw, Qx, Qy, Qh, Qz, Jy, Qi, Qb, Qj, Qk, Q0, Jz, Q1, Q2, J0, Q3, Q4, J1, Ql, Qm, Qn, Q5, Qo, Q6, Qp, Q7, Q8, J2, Q9, Ja, J3, J4, J5, Jb, J6, J7, Jc, J8, J9, Jd, Je, Ya, Jf, Yb, Jg, Jh, Y8, Yc, Ji, Yd, Ye, Yf, Yg, Yh, Y2, Jj, Qq, Jk, Yi, Jl, Jm, Yj, Y3, Yk, Yl, Y4, Ym, Y5, Yn, Qc, Yo, Jn, Yp, Yq, Y6, Yr, Qd, Jo, Jp, Y7, Ys, Yt, Yu, Yv, Yw, Yx, Jq, Jr, Qr, Js, Yy, Qe, Qs, List.set_cons_zero, List.set_cons_succ, List.map_cons, List.map_nil, List.replicate, List.cons_append, List.nil_append, List.length_cons, List.length_nil, Bool.false_eq_true, eq_self, if_true, if_false, Nat.zero_add, Jt, Yz, Ju, Jv, Jw, Y0, Jx, true_and]
    refine end3_spec h3 hc (laid := laidF c name pl c.piles.length) bs_get hE ?_
    simp only [Y1, Qf, Qt, Qu, Qa, Qg, Qv, Qw, Qx, Qy, Qh, Qz, Jy, Qi, Qb, Qj, Qk, Q0, Jz, Q1, Q2, J0, Q3, Q4, J1, Ql, Qm, Qn, Q5, Qo, Q6, Qp, Q7, Q8, J2, Q9, Ja, J3, J4, J5, Jb, J6, J7, Jc, J8, J9, Jd, Je, Ya, Jf, Yb, Jg, Jh, Y8, Yc, Ji, Yd, Ye, Yf, Yg, Yh, Y2, Jj, Qq, Jk, Yi, Jl, Jm, Yj, Y3, Yk, Yl, Y4, Ym, Y5, Yn, Qc, Yo, Jn, Yp, Yq, Y6, Yr, Qd, Jo, Jp, Y7, Ys, Yt, Yu, Yv, Yw, Yx, Jq, Jr, Qr, Js, Yy, Qe, Qs, List.set_cons_zero, List.set_cons_succ, List.map_cons, List.map_nil, List.replicate, List.cons_append, List.nil_append, List.length_cons, List.length_nil, Bool.false_eq_true, eq_self, if_true, if_false, Nat.zero_add, Jt, Yz, Ju, Jv, Jw, Y0, Jx, true_and]
    have hgl := (List.getElem?_eq_some_iff.mp hE.giv).1
    obtain ⟨l, rfl⟩ := sto_pre (s := s) (s' := s') (by omega) fun m hm => by
      rw [hE.old m (by omega), List.getElem?_append_left hm]
    exact ok_gcC rfl hf (below_encE _ _ _) (hT g hE.gok)
end Z

namespace Z
open PySem PySem.Spec L2

/-! ### plain: bars stay where more is placed -/
def leftF (c : Cnt) (pl : List (Nat × Str)) : List Nat := (List.range c.piles.length).filter fun k => match c.piles[k]? with | some p => !p.others.isEmpty && (lookP pl k).isNone | none => false
theorem leftF_mem {c : Cnt} {pl : List (Nat × Str)} {k : Nat} : k ∈ leftF c pl ↔ ∃ p, c.piles[k]? = some p ∧ p.others.isEmpty = false ∧ lookP pl k = none := by
  unfold leftF
  rw [List.mem_filter, List.mem_range]
  constructor
  · rintro ⟨h1, h2⟩
    rw [List.getElem?_eq_getElem h1] at h2
    rw [Bool.and_eq_true, Bool.not_eq_true', Option.isNone_iff_eq_none] at h2
    exact ⟨_, List.getElem?_eq_getElem h1, h2.1, h2.2⟩
  · rintro ⟨p, h1, h2, h3⟩
    refine ⟨(List.getElem?_eq_some_iff.mp h1).1, ?_⟩
    rw [h1]
    show (!p.others.isEmpty && (lookP pl k).isNone) = true
    rw [h2, h3]; rfl
def canJ (c : Cnt) (name : Str) : Nat → List (Nat × Str) → Bool
  | 0, _ => false
  | j + 1, pl => noBar c name pl && (match leftF c pl with
    | [] => true
    | k :: _ => match c.piles[k]? with | some p => (namP p).any fun z => canJ c name j (pl ++ [(k, z)]) | none => false)
theorem look_app {pl : List (Nat × Str)} {k j : Nat} {z : Str} : lookP (pl ++ [(k, z)]) j = match lookP pl j with | some y => some y | none => if k = j then some z else none := by
  unfold lookP
  rw [List.find?_append]
  cases pl.find? fun x => decide (x.1 = j) with
  | some y => rfl
  | none =>
    by_cases h : k = j
    · simp [h]
    · simp [h]
theorem und_app {pl : List (Nat × Str)} {k j : Nat} {z : Str} {p : Pil} (hk : lookP pl k = none) : undP (pl ++ [(k, z)]) j p = if k = j then [z] else undP pl j p := by
  unfold undP
  rw [look_app]
  by_cases h : k = j
  · subst h
    rw [hk, if_pos rfl, if_pos rfl]
  · rw [if_neg h, if_neg h]
    cases lookP pl j <;> rfl
theorem atS_le {f g : Nat → Pil → Int} {ps : List Pil} : ∀ i : Nat, (∀ (k : Nat) (p : Pil), ps[k]? = some p → f k p ≤ g k p) → atS f ps i ≤ atS g ps i
  | 0, _ => Int.le_refl _
  | i + 1, h => by
    have ih := atS_le i h
    cases hp : ps[i]? with
    | some p =>
      rw [atS_succ hp, atS_succ hp]
      have := h i p hp
      omega
    | none =>
      have e : ∀ q : Nat → Pil → Int, atS q ps (i + 1) = atS q ps i := fun q => by
        unfold atS
        rw [List.range_succ, List.map_append, List.sum_append, List.map_singleton, hp]
        simp
      rw [e, e]
      exact ih
/-- a bar stays a bar where one pile more is placed -/
theorem bar_mono {c : Cnt} (hc : CntB c) {name : Str} {names : List Str} {pl : List (Nat × Str)} {k : Nat} {z : Str} (hk : lookP pl k = none) (hz : ∀ p, c.piles[k]? = some p → z ∈ namP p) (h : barF c name names pl = true) : barF c name names (pl ++ [(k, z)]) = true := by
  have hg : greatF c name (pl ++ [(k, z)]) ≤ greatF c name pl := by
    unfold greatF
    have := atS_le (f := gAt name (pl ++ [(k, z)])) (g := gAt name pl) (ps := c.piles) c.piles.length fun j p hp => by
      have hpb := hc.piles p (List.mem_of_getElem? hp)
      have m0 := hpb.many0
      have s0 := hpb.slip0
      unfold gAt
      rw [und_app hk]
      by_cases e : k = j
      · subst e
        have hu : undP pl k p = namP p := by simp only [undP, hk]
        rw [if_pos rfl, hu]
        by_cases hm : name ∈ [z]
        · have : name ∈ namP p := by rw [List.mem_singleton.mp hm]; exact hz p hp
          rw [if_pos hm, if_pos this]
          exact Int.le_refl _
        · rw [if_neg hm]
          split <;> omega
      · rw [if_neg e]
        exact Int.le_refl _
    omega
  have hh : hadF c names pl ≤ hadF c names (pl ++ [(k, z)]) := by
    unfold hadF
    have := atS_le (f := hAt names pl) (g := hAt names (pl ++ [(k, z)])) (ps := c.piles) c.piles.length fun j p hp => by
      have hpb := hc.piles p (List.mem_of_getElem? hp)
      have hlow : 0 ≤ lowP p := by
        have := hpb.low
        unfold lowP
        omega
      unfold hAt
      rw [und_app hk]
      by_cases e : k = j
      · subst e
        have hu : undP pl k p = namP p := by simp only [undP, hk]
        rw [if_pos rfl, hu]
        by_cases hm : (namP p).all (fun x => decide (x ∈ names)) = true
        · have : ([z] : List Str).all (fun x => decide (x ∈ names)) = true := by
            rw [List.all_cons, List.all_nil, Bool.and_true]
            exact List.all_eq_true.mp hm z (hz p hp)
          rw [if_pos hm, if_pos this]
          exact Int.le_refl _
        · rw [if_neg hm]
          split
          · exact hlow
          · exact Int.le_refl _
      · rw [if_neg e]
        exact Int.le_refl _
    omega
  have hs : ∀ ns : List Str, (ns.map fun o => greatF c name (pl ++ [(k, z)]) - aheadI c name o).sum ≤ (ns.map fun o => greatF c name pl - aheadI c name o).sum := fun ns => by
    induction ns with
    | nil => exact Int.le_refl _
    | cons x r ih =>
      rw [List.map_cons, List.map_cons, List.sum_cons, List.sum_cons]
      omega
  have h := of_decide_eq_true h
  refine decide_eq_true ?_
  have := hs names
  omega
end Z

namespace Z
open PySem PySem.Spec L2

/-! ### searched: the piles left -/
def leftI (c : Cnt) (pl : List (Nat × Str)) (i : Nat) : List Nat := (List.range i).filter fun k => match c.piles[k]? with | some p => !p.others.isEmpty && (lookP pl k).isNone | none => false
def bLeft : Fn (List Dv) := (fLc (fEnum (fCons (fBin gIx (fVar 0) (fC (.int 1))) (fNil))) [10, 11] (gTp 2 (gsCons (gNm 10) (gsCons (gNm 11) (gsNil)))) (fAndT (fTest (fBin gNe (fBin gIx (fVar 11) (fC (.int 3))) (fTup (fNil)))) (fTest (fBin gNotInK (fVar 10) (fVar 2)))) (fVar 10))
theorem left_spec {f : Fn (List Dv)} (hf : f = bLeft) {c : Cnt} (hc : CntB c) {pl : List (Nat × Str)} {n : Nat} {s : Sto} (hs : s[n]? = some (.dk (plK pl))) {v1 v3 v4 v5 v6 v7 v8 v9 v10 v11 : Option Dv} {L : List Dv → Sto → Prop} (hL : L ((leftF c pl).map fun k : Nat => Dv.int (k : Int)) s) :
    OkE nX (f [some (encC c), v1, some (.loc n), v3, v4, v5, v6, v7, v8, v9, v10, v11] s) L := by
  subst hf
  have np := hc.npiles
  unfold bLeft
  simp only [Y1, Qf, Qt, Qu, Qa, Qg, Qv, Qw, Qx, Qy, Qh, Qz, Jy, Qi, Qb, Qj, Qk, Q0, Jz, Q1, Q2, J0, Q3, Q4, J1, Ql, Qm, Qn, Q5, Qo, Q6, Qp, Q7, Q8, J2, Q9, Ja, J3, J4, J5, Jb, J6, J7, Jc, J8, J9, Jd, Je, Ya, Jf, Yb, Jg, Jh, Y8, Yc, Ji, Yd, Ye, Yf, Yg, Yh, Y2, Jj, Qq, Jk, Yi, Jl, Jm, Yj, Y3, Yk, Yl, Y4, Ym, Y5, Yn, Qc, Yo, Jn, Yp, Yq, Y6, Yr, Qd, Jo, Jp, Y7, Ys, Yt, Yu, Yv, Yw, Yx, Jq, Jr, Qr, Js, Yy, Qe, Qs, List.set_cons_zero, List.set_cons_succ, List.map_cons, List.map_nil, List.replicate, List.cons_append, List.nil_append, List.length_cons, List.length_nil, Bool.false_eq_true, eq_self, if_true, if_false, Nat.zero_add, Jt, Yz, Ju, Jv, Jw, Y0, Jx, true_and, ok_enum, ixC1]
  refine kEnum_tup ?_
  refine ⟨decide_eq_true (by rw [enumD_len, List.length_map]; omega), ?_⟩
  refine ok_lcI (fun i acc s' => acc = (leftI c pl i).map (fun k : Nat => Dv.int (k : Int)) ∧ s' = s) (fun _ _ _ _ => rfl) (fun i d acc s' hd q => ?_) (fun acc s' q => ?_) ⟨rfl, rfl⟩
  · obtain ⟨rfl, rfl⟩ := q
    obtain ⟨d2, hd2, rfl⟩ := enumD_get hd
    rw [List.getElem?_map] at hd2
    obtain ⟨p, hp, rfl⟩ := Option.map_eq_some_iff.mp hd2
    have hpb := hc.piles p (List.mem_of_getElem? hp)
    have hok : ∀ x ∈ p.others, PyData.strOk x = true ∧ x.cps.size ≤ 8 := fun x hx => word_ok (hc.word (hpb.oth x hx).1)
    have i3 : ∀ s : Sto, gIx (encP p) (.int 3) s = .ok (encS p.others) s := fun s => rfl
    have en : gNotInK (.int (i : Nat)) (.loc n) s' = .ok (.bl (!(lookP pl i).isSome)) s' := by
      show (gInK (.int (i : Nat)) (.loc n) s').bind _ = _
      rw [inK_pl hs]; rfl
    have el : leftI c pl (i + 1) = leftI c pl i ++ (if (!p.others.isEmpty && (lookP pl i).isNone) = true then [i] else []) := by
      unfold leftI
      rw [List.range_succ, List.filter_append, List.filter_cons, hp]; rfl
    rw [el]
    simp only [Y1, Qf, Qt, Qu, Qa, Qg, Qv, Qw, Qx, Qy, Qh, Qz, Jy, Qi, Qb, Qj, Qk, Q0, Jz, Q1, Q2, J0, Q3, Q4, J1, Ql, Qm, Qn, Q5, Qo, Q6, Qp, Q7, Q8, J2, Q9, Ja, J3, J4, J5, Jb, J6, J7, Jc, J8, J9, Jd, Je, Ya, Jf, Yb, Jg, Jh, Y8, Yc, Ji, Yd, Ye, Yf, Yg, Yh, Y2, Jj, Qq, Jk, Yi, Jl, Jm, Yj, Y3, Yk, Yl, Y4, Ym, Y5, Yn, Qc, Yo, Jn, Yp, Yq, Y6, Yr, Qd, Jo, Jp, Y7, Ys, Yt, Yu, Yv, Yw, Yx, Jq, Jr, Qr, Js, Yy, Qe, Qs, List.set_cons_zero, List.set_cons_succ, List.map_cons, List.map_nil, List.replicate, List.cons_append, List.nil_append, List.length_cons, List.length_nil, Bool.false_eq_true, eq_self, if_true, if_false, Nat.zero_add, Jt, Yz, Ju, Jv, Jw, Y0, Jx, true_and, wipeZ, i3]
    refine ⟨rfl, by decide, ?_⟩
    rw [neT_strs hok, Y1]
    cases ho : p.others.isEmpty with
    | true =>
      simp only [Y1, Qf, Qt, Qu, Qa, Qg, Qv, Qw, Qx, Qy, Qh, Qz, Jy, Qi, Qb, Qj, Qk, Q0, Jz, Q1, Q2, J0, Q3, Q4, J1, Ql, Qm, Qn, Q5, Qo, Q6, Qp, Q7, Q8, J2, Q9, Ja, J3, J4, J5, Jb, J6, J7, Jc, J8, J9, Jd, Je, Ya, Jf, Yb, Jg, Jh, Y8, Yc, Ji, Yd, Ye, Yf, Yg, Yh, Y2, Jj, Qq, Jk, Yi, Jl, Jm, Yj, Y3, Yk, Yl, Y4, Ym, Y5, Yn, Qc, Yo, Jn, Yp, Yq, Y6, Yr, Qd, Jo, Jp, Y7, Ys, Yt, Yu, Yv, Yw, Yx, Jq, Jr, Qr, Js, Yy, Qe, Qs, List.set_cons_zero, List.set_cons_succ, List.map_cons, List.map_nil, List.replicate, List.cons_append, List.nil_append, List.length_cons, List.length_nil, Bool.false_eq_true, eq_self, if_true, if_false, Nat.zero_add, Jt, Yz, Ju, Jv, Jw, Y0, Jx, true_and, Bool.not_true, Bool.false_and]
      first | exact ⟨by simp, rfl⟩ | simp
    | false =>
      simp only [Y1, Qf, Qt, Qu, Qa, Qg, Qv, Qw, Qx, Qy, Qh, Qz, Jy, Qi, Qb, Qj, Qk, Q0, Jz, Q1, Q2, J0, Q3, Q4, J1, Ql, Qm, Qn, Q5, Qo, Q6, Qp, Q7, Q8, J2, Q9, Ja, J3, J4, J5, Jb, J6, J7, Jc, J8, J9, Jd, Je, Ya, Jf, Yb, Jg, Jh, Y8, Yc, Ji, Yd, Ye, Yf, Yg, Yh, Y2, Jj, Qq, Jk, Yi, Jl, Jm, Yj, Y3, Yk, Yl, Y4, Ym, Y5, Yn, Qc, Yo, Jn, Yp, Yq, Y6, Yr, Qd, Jo, Jp, Y7, Ys, Yt, Yu, Yv, Yw, Yx, Jq, Jr, Qr, Js, Yy, Qe, Qs, List.set_cons_zero, List.set_cons_succ, List.map_cons, List.map_nil, List.replicate, List.cons_append, List.nil_append, List.length_cons, List.length_nil, Bool.false_eq_true, eq_self, if_true, if_false, Nat.zero_add, Jt, Yz, Ju, Jv, Jw, Y0, Jx, true_and, Bool.not_false, en]
      cases hlk : lookP pl i with
      | some y =>
        simp only [Y1, Qf, Qt, Qu, Qa, Qg, Qv, Qw, Qx, Qy, Qh, Qz, Jy, Qi, Qb, Qj, Qk, Q0, Jz, Q1, Q2, J0, Q3, Q4, J1, Ql, Qm, Qn, Q5, Qo, Q6, Qp, Q7, Q8, J2, Q9, Ja, J3, J4, J5, Jb, J6, J7, Jc, J8, J9, Jd, Je, Ya, Jf, Yb, Jg, Jh, Y8, Yc, Ji, Yd, Ye, Yf, Yg, Yh, Y2, Jj, Qq, Jk, Yi, Jl, Jm, Yj, Y3, Yk, Yl, Y4, Ym, Y5, Yn, Qc, Yo, Jn, Yp, Yq, Y6, Yr, Qd, Jo, Jp, Y7, Ys, Yt, Yu, Yv, Yw, Yx, Jq, Jr, Qr, Js, Yy, Qe, Qs, List.set_cons_zero, List.set_cons_succ, List.map_cons, List.map_nil, List.replicate, List.cons_append, List.nil_append, List.length_cons, List.length_nil, Bool.false_eq_true, eq_self, if_true, if_false, Nat.zero_add, Jt, Yz, Ju, Jv, Jw, Y0, Jx, true_and, Option.isSome_some, Option.isNone_some, Bool.not_true, Bool.and_false]
        first | exact ⟨by simp, rfl⟩ | simp
      | none =>
        simp only [Y1, Qf, Qt, Qu, Qa, Qg, Qv, Qw, Qx, Qy, Qh, Qz, Jy, Qi, Qb, Qj, Qk, Q0, Jz, Q1, Q2, J0, Q3, Q4, J1, Ql, Qm, Qn, Q5, Qo, Q6, Qp, Q7, Q8, J2, Q9, Ja, J3, J4, J5, Jb, J6, J7, Jc, J8, J9, Jd, Je, Ya, Jf, Yb, Jg, Jh, Y8, Yc, Ji, Yd, Ye, Yf, Yg, Yh, Y2, Jj, Qq, Jk, Yi, Jl, Jm, Yj, Y3, Yk, Yl, Y4, Ym, Y5, Yn, Qc, Yo, Jn, Yp, Yq, Y6, Yr, Qd, Jo, Jp, Y7, Ys, Yt, Yu, Yv, Yw, Yx, Jq, Jr, Qr, Js, Yy, Qe, Qs, List.set_cons_zero, List.set_cons_succ, List.map_cons, List.map_nil, List.replicate, List.cons_append, List.nil_append, List.length_cons, List.length_nil, Bool.false_eq_true, eq_self, if_true, if_false, Nat.zero_add, Jt, Yz, Ju, Jv, Jw, Y0, Jx, true_and, Option.isSome_none, Option.isNone_none, Bool.not_false, Bool.and_true]
        first | exact ⟨by simp, rfl⟩ | simp
  · obtain ⟨rfl, rfl⟩ := q
    rw [enumD_len, List.length_map]
    exact hL
end Z

namespace Z
open PySem PySem.Spec L2

/-! ### searched -/
def SearchS (j : Nat) (φ : Phi) : Prop := ∀ (c : Cnt) (name : Str) (pl : List (Nat × Str)) (n : Nat) (s : Sto) (T : Dv → Sto → Prop), CntB c → name ∈ c.lots → PlIn c pl → pl.length + j ≤ 100 → Cl s → s[n]? = some (.dk (plK pl)) → (leftF c pl).length < j →
  (∀ x, below 0 x = true → T (.tup [.str (if canJ c name j pl = true then Str.ofString "end" else Str.ofString "cases"), x]) s) → OkE nX (φ [encC c, .str name, .loc n] s) T
def bSrIn (ψ : Phi) : Fn Ct := (fSeq (fSet 7 (fCall gDictC (fCons (fVar 2) (fNil))))
  (fSeq (fPut (fVar 7) (fBin gIx (fVar 4) (fC (.int 0))) (fVar 6))
  (fSeq (fAsg (fCall ψ (fCons (fVar 0) (fCons (fVar 1) (fCons (fVar 7) (fNil))))) (gTp 2 (gsCons (gNm 8) (gsCons (gNm 9) (gsNil)))))
  (fSeq (fIfS (fTest (fBin gEq (fVar 8) (fC (.str (Str.ofString "end"))))) (fRet (fTup (fCons (fVar 8) (fCons (fVar 9) (fNil))))) (fNop))
  (fDrop (fMt isL gAppend (fVar 5) (fCons (fVar 9) (fNil))))))))
theorem fl_plK {pl : List (Nat × Str)} : Fl [Ob.dk (plK pl)] := fun o ho => by
  rw [List.mem_singleton.mp ho]
  show (plK pl).all (fun p => below 0 p.2) = true
  unfold plK
  rw [List.all_map]
  exact List.all_eq_true.mpr fun x _ => rfl
theorem left_app {c : Cnt} {pl : List (Nat × Str)} {k : Nat} {z : Str} (hk : k ∈ leftF c pl) : (leftF c (pl ++ [(k, z)])).length < (leftF c pl).length := by
  have hnd : (leftF c pl).Nodup := List.Pairwise.filter _ List.nodup_range
  have hnd2 : (leftF c (pl ++ [(k, z)])).Nodup := List.Pairwise.filter _ List.nodup_range
  have h2 : ∀ i ∈ leftF c (pl ++ [(k, z)]), i ∈ (leftF c pl).erase k := fun i hi => by
    obtain ⟨p, h1, h2, h3⟩ := leftF_mem.mp hi
    rw [look_app] at h3
    have hne : i ≠ k := fun e => by
      subst e
      cases hl : lookP pl i with
      | some y => rw [hl] at h3; cases h3
      | none => rw [hl] at h3; simp at h3
    have hl : lookP pl i = none := by
      cases hl : lookP pl i with
      | some y => rw [hl] at h3; cases h3
      | none => rfl
    exact (List.mem_erase_of_ne hne).mpr (leftF_mem.mpr ⟨p, h1, h2, hl⟩)
  have := nodup_le hnd2 h2
  rw [List.length_erase_of_mem hk] at this
  have := List.length_pos_of_mem hk
  omega
theorem srIn_spec {ψ : Phi} {b : Fn Ct} (hb : b = bSrIn ψ) {j : Nat} (hψ : SearchS j ψ) {c : Cnt} (hc : CntB c) {name : Str} (hn : name ∈ c.lots) {pl : List (Nat × Str)} (hpl : PlIn c pl) (hlen : pl.length + (j + 1) ≤ 100) {n k : Nat} {ks : List Nat} (hks : leftF c pl = k :: ks) (hj : (leftF c pl).length < j + 1) {z : Str} (hz : z ∈ c.lots) {S : Sto} {a : Nat} {parts : List Dv} (hpa : parts.length ≤ 1000) (hpb : belows 0 parts = true) {l : Sto} (hS : S = l) (ha : S[a]? = some (.lst parts)) (hf : Cl S) (hs : S[n]? = some (.dk (plK pl))) {v3 v7 v8 v9 v10 v11 : Option Dv} {R : Ct → Sto → Prop}
    (hR1 : canJ c name j (pl ++ [(k, z)]) = true → ∀ x l, below 0 x = true → R (.ret (.tup [.str (Str.ofString "end"), x])) (S ++ l))
    (hR2 : canJ c name j (pl ++ [(k, z)]) = false → ∀ v7 v8 v9 x (q : Ob), Fl [q] → below 0 x = true → R (.next [some (encC c), some (.str name), some (.loc n), v3, some (.ls ((leftF c pl).map fun k : Nat => Dv.int (k : Int))), some (.loc a), some (.str z), v7, v8, v9, v10, v11]) ((S ++ [q]).set a (.lst (parts ++ [x])))) :
    OkE nX (b [some (encC c), some (.str name), some (.loc n), v3, some (.ls ((leftF c pl).map fun k : Nat => Dv.int (k : Int))), some (.loc a), some (.str z), v7, v8, v9, v10, v11] S) R := by
  subst hb
  clear hS
  have hne : Str.ofString "cases" ≠ Str.ofString "end" := by decide +kernel
  have hkm : k ∈ leftF c pl := by rw [hks]; exact List.mem_cons_self
  obtain ⟨p, _, _, hk0⟩ := leftF_mem.mp hkm
  have hlt := left_app (z := z) hkm
  have hin : PlIn c (pl ++ [(k, z)]) := fun x hx => by
    rcases List.mem_append.mp hx with h | h
    · exact hpl x h
    · rw [List.mem_singleton.mp h]; exact hz
  have i0 : ∀ s : Sto, gIx (.ls ((leftF c pl).map fun k : Nat => Dv.int (k : Int))) (.int 0) s = .ok (.int (k : Nat)) s := fun s => ix_ls (by decide) (by rw [hks]; rfl)
  have hnew : (S ++ [Ob.dk (plK pl)])[S.length]? = some (.dk (plK pl)) := bs_get
  have hset : (S ++ [Ob.dk (plK pl)]).set S.length (.dk (plK (pl ++ [(k, z)]))) = S ++ [Ob.dk (plK (pl ++ [(k, z)]))] := bs_set
  unfold bSrIn
  unfold SearchS at hψ
  generalize Str.ofString "end" = we at hne hψ hR1
  generalize Str.ofString "cases" = wc at hne hψ
  simp only [Y1, Qf, Qt, Qu, Qa, Qg, Qv, Qw, Qx, Qy, Qh, Qz, Jy, Qi, Qb, Qj, Qk, Q0, Jz, Q1, Q2, J0, Q3, Q4, J1, Ql, Qm, Qn, Q5, Qo, Q6, Qp, Q7, Q8, J2, Q9, Ja, J3, J4, J5, Jb, J6, J7, Jc, J8, J9, Jd, Je, Ya, Jf, Yb, Jg, Jh, Y8, Yc, Ji, Yd, Ye, Yf, Yg, Yh, Y2, Jj, Qq, Jk, Yi, Jl, Jm, Yj, Y3, Yk, Yl, Y4, Ym, Y5, Yn, Qc, Yo, Jn, Yp, Yq, Y6, Yr, Qd, Jo, Jp, Y7, Ys, Yt, Yu, Yv, Yw, Yx, Jq, Jr, Qr, Js, Yy, Qe, Qs, List.set_cons_zero, List.set_cons_succ, List.map_cons, List.map_nil, List.replicate, List.cons_append, List.nil_append, List.length_cons, List.length_nil, Bool.false_eq_true, eq_self, if_true, if_false, Nat.zero_add, Jt, Yz, Ju, Jv, Jw, Y0, Jx, true_and, dictC_pl hs, i0, put_pl hnew (show pl.length < 16777216 by omega) hk0, hset]
  refine hψ c name (pl ++ [(k, z)]) S.length _ _ hc hn hin (by rw [List.length_append, List.length_singleton]; omega) (hf.app fl_plK) bs_get (by omega) fun x hx => ?_
  have haS : (S ++ [Ob.dk (plK (pl ++ [(k, z)]))])[a]? = some (.lst parts) := by rw [List.getElem?_append_left (List.getElem?_eq_some_iff.mp ha).1]; exact ha
  cases hcan : canJ c name j (pl ++ [(k, z)]) with
  | true =>
    simp only [Y1, Qf, Qt, Qu, Qa, Qg, Qv, Qw, Qx, Qy, Qh, Qz, Jy, Qi, Qb, Qj, Qk, Q0, Jz, Q1, Q2, J0, Q3, Q4, J1, Ql, Qm, Qn, Q5, Qo, Q6, Qp, Q7, Q8, J2, Q9, Ja, J3, J4, J5, Jb, J6, J7, Jc, J8, J9, Jd, Je, Ya, Jf, Yb, Jg, Jh, Y8, Yc, Ji, Yd, Ye, Yf, Yg, Yh, Y2, Jj, Qq, Jk, Yi, Jl, Jm, Yj, Y3, Yk, Yl, Y4, Ym, Y5, Yn, Qc, Yo, Jn, Yp, Yq, Y6, Yr, Qd, Jo, Jp, Y7, Ys, Yt, Yu, Yv, Yw, Yx, Jq, Jr, Qr, Js, Yy, Qe, Qs, List.set_cons_zero, List.set_cons_succ, List.map_cons, List.map_nil, List.replicate, List.cons_append, List.nil_append, List.length_cons, List.length_nil, Bool.false_eq_true, eq_self, if_true, if_false, Nat.zero_add, Jt, Yz, Ju, Jv, Jw, Y0, Jx, true_and, eq_str, BEq.rfl]
    refine ⟨rfl, ?_⟩
    repeat (refine ⟨by decide, ?_⟩)
    exact hR1 hcan x _ hx
  | false =>
    simp only [Y1, Qf, Qt, Qu, Qa, Qg, Qv, Qw, Qx, Qy, Qh, Qz, Jy, Qi, Qb, Qj, Qk, Q0, Jz, Q1, Q2, J0, Q3, Q4, J1, Ql, Qm, Qn, Q5, Qo, Q6, Qp, Q7, Q8, J2, Q9, Ja, J3, J4, J5, Jb, J6, J7, Jc, J8, J9, Jd, Je, Ya, Jf, Yb, Jg, Jh, Y8, Yc, Ji, Yd, Ye, Yf, Yg, Yh, Y2, Jj, Qq, Jk, Yi, Jl, Jm, Yj, Y3, Yk, Yl, Y4, Ym, Y5, Yn, Qc, Yo, Jn, Yp, Yq, Y6, Yr, Qd, Jo, Jp, Y7, Ys, Yt, Yu, Yv, Yw, Yx, Jq, Jr, Qr, Js, Yy, Qe, Qs, List.set_cons_zero, List.set_cons_succ, List.map_cons, List.map_nil, List.replicate, List.cons_append, List.nil_append, List.length_cons, List.length_nil, Bool.false_eq_true, eq_self, if_true, if_false, Nat.zero_add, Jt, Yz, Ju, Jv, Jw, Y0, Jx, true_and, eq_str]
    refine ⟨rfl, ?_⟩
    rw [show (wc == we) = false by rw [beq_eq_false_iff_ne]; exact hne]
    simp only [Y1, Qf, Qt, Qu, Qa, Qg, Qv, Qw, Qx, Qy, Qh, Qz, Jy, Qi, Qb, Qj, Qk, Q0, Jz, Q1, Q2, J0, Q3, Q4, J1, Ql, Qm, Qn, Q5, Qo, Q6, Qp, Q7, Q8, J2, Q9, Ja, J3, J4, J5, Jb, J6, J7, Jc, J8, J9, Jd, Je, Ya, Jf, Yb, Jg, Jh, Y8, Yc, Ji, Yd, Ye, Yf, Yg, Yh, Y2, Jj, Qq, Jk, Yi, Jl, Jm, Yj, Y3, Yk, Yl, Y4, Ym, Y5, Yn, Qc, Yo, Jn, Yp, Yq, Y6, Yr, Qd, Jo, Jp, Y7, Ys, Yt, Yu, Yv, Yw, Yx, Jq, Jr, Qr, Js, Yy, Qe, Qs, List.set_cons_zero, List.set_cons_succ, List.map_cons, List.map_nil, List.replicate, List.cons_append, List.nil_append, List.length_cons, List.length_nil, Bool.false_eq_true, eq_self, if_true, if_false, Nat.zero_add, Jt, Yz, Ju, Jv, Jw, Y0, Jx, true_and]
    refine ⟨isL_loc haS, ?_⟩
    rw [append_loc haS (by omega), Y1]
    simp only [Y1, Qf, Qt, Qu, Qa, Qg, Qv, Qw, Qx, Qy, Qh, Qz, Jy, Qi, Qb, Qj, Qk, Q0, Jz, Q1, Q2, J0, Q3, Q4, J1, Ql, Qm, Qn, Q5, Qo, Q6, Qp, Q7, Q8, J2, Q9, Ja, J3, J4, J5, Jb, J6, J7, Jc, J8, J9, Jd, Je, Ya, Jf, Yb, Jg, Jh, Y8, Yc, Ji, Yd, Ye, Yf, Yg, Yh, Y2, Jj, Qq, Jk, Yi, Jl, Jm, Yj, Y3, Yk, Yl, Y4, Ym, Y5, Yn, Qc, Yo, Jn, Yp, Yq, Y6, Yr, Qd, Jo, Jp, Y7, Ys, Yt, Yu, Yv, Yw, Yx, Jq, Jr, Qr, Js, Yy, Qe, Qs, List.set_cons_zero, List.set_cons_succ, List.map_cons, List.map_nil, List.replicate, List.cons_append, List.nil_append, List.length_cons, List.length_nil, Bool.false_eq_true, eq_self, if_true, if_false, Nat.zero_add, Jt, Yz, Ju, Jv, Jw, Y0, Jx, true_and]
    exact hR2 hcan _ _ _ x _ fl_plK hx
end Z

namespace Z
open PySem PySem.Spec L2

/-! ### searched, by levels -/
def bSearch (φb φe : Phi) (fL : Fn (List Dv)) (bi : Fn Ct) : Fn Ct :=
  fSeq (fSet 3 (fCall φb (fCons (fVar 0) (fCons (fVar 1) (fCons (fVar 2) (fNil))))))
  (fSeq (fIfS (fTest (fBin gIsNot (fVar 3) (fC .non))) (fRet (fTup (fCons (fC (.str (Str.ofString "cases"))) (fCons (fTup (fCons (fC (.str (Str.ofString "bar"))) (fCons (fVar 3) (fNil)))) (fNil))))) (fNop))
  (fSeq (fSet 4 (fVal fL))
  (fSeq (fIfS (fTest (fBin gEq (fVar 4) (fVal (fLst (fNil))))) (fRet (fTup (fCons (fC (.str (Str.ofString "end"))) (fCons (fCall φe (fCons (fVar 0) (fCons (fVar 1) (fCons (fVar 2) (fNil))))) (fNil))))) (fNop))
  (fSeq (fSet 5 (fNew (fLst (fNil))))
  (fSeq (fFor (fSrc (fBin gAdd (fTup (fCons (fBin gIx (fBin gIx (fBin gIx (fVar 0) (fC (.int 1))) (fBin gIx (fVar 4) (fC (.int 0)))) (fC (.int 0))) (fNil))) (fBin gIx (fBin gIx (fBin gIx (fVar 0) (fC (.int 1))) (fBin gIx (fVar 4) (fC (.int 0)))) (fC (.int 3))))) (gNm 6) bi)
  (fRet (fTup (fCons (fC (.str (Str.ofString "cases"))) (fCons (fTup (fCons (fC (.str (Str.ofString "under"))) (fCons (fBin gIx (fVar 4) (fC (.int 0))) (fCons (fCall gTuple (fCons (fVar 5) (fNil))) (fNil))))) (fNil)))))))))) 
theorem isnot_anyG {d : Dv} {s : Sto} : gIsNot d .non s = .ok (.bl (match d with | .non => false | _ => true)) s := by cases d <;> rfl
theorem ints_nil {ks : List Nat} (h : ks.length ≤ 1000) (hk : ∀ k ∈ ks, k ≤ 1000) {s : Sto} : gEq (.ls (ks.map fun k : Nat => Dv.int (k : Int))) (.ls []) s = .ok (.bl ks.isEmpty) s := by
  have hg : gbs 1 (ks.map fun k : Nat => Dv.int (k : Int)) = true := gbs_all fun d hd => by
    obtain ⟨k, hk', rfl⟩ := List.mem_map.mp hd
    have := hk k hk'
    simp only [gb, decide_eq_true_eq]
    exact Nat.lt_of_le_of_lt (show ((k : Nat) : Int).natAbs ≤ 1000 by omega) (by decide +kernel)
  rw [eqL_nil hg (by decide), List.isEmpty_map]
theorem search_step {ψ φb φe : Phi} {fL : Fn (List Dv)} {bi : Fn Ct} (hL : fL = bLeft) (hbi : bi = bSrIn ψ) (hb : BarAtS φb) (he : EndOfS φe) {j : Nat} (hψ : SearchS j ψ) : SearchS (j + 1) (fDef 3 12 (bSearch φb φe fL bi)) := by
  intro c name pl n s T hc hn hpl hlen hf hs hj hT
  have np := hc.npiles
  have hlf : ∀ k ∈ leftF c pl, k ≤ 1000 := fun k hk => by
    obtain ⟨p, h1, _⟩ := leftF_mem.mp hk
    have := (List.getElem?_eq_some_iff.mp h1).1
    omega
  have hll : (leftF c pl).length ≤ 1000 := by omega
  have hcan : canJ c name (j + 1) pl = (noBar c name pl && (match leftF c pl with
    | [] => true
    | k :: _ => match c.piles[k]? with | some p => (namP p).any fun z => canJ c name j (pl ++ [(k, z)]) | none => false)) := rfl
  have hnb := noBar_iff (c := c) (name := name) (pl := pl)
  rw [ok_def]
  refine ⟨rfl, ?_⟩
  unfold bSearch
  generalize Str.ofString "bar" = wb
  generalize Str.ofString "under" = wu
  have hTc : canJ c name (j + 1) pl = false → ∀ x, below 0 x = true → T (.tup [.str (Str.ofString "cases"), x]) s := fun h x hx => by
    have := hT x hx
    rwa [h, if_neg Bool.false_ne_true] at this
  have hTe : canJ c name (j + 1) pl = true → ∀ x, below 0 x = true → T (.tup [.str (Str.ofString "end"), x]) s := fun h x hx => by
    have := hT x hx
    rwa [h, if_pos rfl] at this
  have hIn := fun {n k : Nat} {ks : List Nat} (hks : leftF c pl = k :: ks) {z : Str} (hz : z ∈ c.lots) => @srIn_spec ψ bi hbi j hψ c hc name hn pl hpl hlen n k ks hks hj z hz
  clear hT hψ
  generalize Str.ofString "end" = we at hTe hIn
  generalize Str.ofString "cases" = wc at hTc
  simp only [Y1, Qf, Qt, Qu, Qa, Qg, Qv, Qw, Qx, Qy, Qh, Qz, Jy, Qi, Qb, Qj, Qk, Q0, Jz, Q1, Q2, J0, Q3, Q4, J1, Ql, Qm, Qn, Q5, Qo, Q6, Qp, Q7, Q8, J2, Q9, Ja, J3, J4, J5, Jb, J6, J7, Jc, J8, J9, Jd, Je, Ya, Jf, Yb, Jg, Jh, Y8, Yc, Ji, Yd, Ye, Yf, Yg, Yh, Y2, Jj, Qq, Jk, Yi, Jl, Jm, Yj, Y3, Yk, Yl, Y4, Ym, Y5, Yn, Qc, Yo, Jn, Yp, Yq, Y6, Yr, Qd, Jo, Jp, Y7, Ys, Yt, Yu, Yv, Yw, Yx, Jq, Jr, Qr, Js, Yy, Qe, Qs, List.set_cons_zero, List.set_cons_succ, List.map_cons, List.map_nil, List.replicate, List.cons_append, List.nil_append, List.length_cons, List.length_nil, Bool.false_eq_true, eq_self, if_true, if_false, Nat.zero_add, Jt, Yz, Ju, Jv, Jw, Y0, Jx, true_and]
  refine hb c name pl n s _ hc hn hs ?_
  cases hbn : barN c name pl with
  | some r =>
    rw [hbn] at hnb
    have h0 : canJ c name (j + 1) pl = false := by rw [hcan, hnb]; rfl
    simp only [Y1, Qf, Qt, Qu, Qa, Qg, Qv, Qw, Qx, Qy, Qh, Qz, Jy, Qi, Qb, Qj, Qk, Q0, Jz, Q1, Q2, J0, Q3, Q4, J1, Ql, Qm, Qn, Q5, Qo, Q6, Qp, Q7, Q8, J2, Q9, Ja, J3, J4, J5, Jb, J6, J7, Jc, J8, J9, Jd, Je, Ya, Jf, Yb, Jg, Jh, Y8, Yc, Ji, Yd, Ye, Yf, Yg, Yh, Y2, Jj, Qq, Jk, Yi, Jl, Jm, Yj, Y3, Yk, Yl, Y4, Ym, Y5, Yn, Qc, Yo, Jn, Yp, Yq, Y6, Yr, Qd, Jo, Jp, Y7, Ys, Yt, Yu, Yv, Yw, Yx, Jq, Jr, Qr, Js, Yy, Qe, Qs, List.set_cons_zero, List.set_cons_succ, List.map_cons, List.map_nil, List.replicate, List.cons_append, List.nil_append, List.length_cons, List.length_nil, Bool.false_eq_true, eq_self, if_true, if_false, Nat.zero_add, Jt, Yz, Ju, Jv, Jw, Y0, Jx, true_and, isnot_anyG]
    repeat (refine ⟨by decide, ?_⟩)
    exact ok_gcC0 rfl hf (by simp [below, belows]; exact below_encS _ _) (hTc h0 _ (below_tup (belows_cons rfl (belows_cons (below_encS _ _) rfl))))
  | none =>
    rw [hbn] at hnb
    simp only [Y1, Qf, Qt, Qu, Qa, Qg, Qv, Qw, Qx, Qy, Qh, Qz, Jy, Qi, Qb, Qj, Qk, Q0, Jz, Q1, Q2, J0, Q3, Q4, J1, Ql, Qm, Qn, Q5, Qo, Q6, Qp, Q7, Q8, J2, Q9, Ja, J3, J4, J5, Jb, J6, J7, Jc, J8, J9, Jd, Je, Ya, Jf, Yb, Jg, Jh, Y8, Yc, Ji, Yd, Ye, Yf, Yg, Yh, Y2, Jj, Qq, Jk, Yi, Jl, Jm, Yj, Y3, Yk, Yl, Y4, Ym, Y5, Yn, Qc, Yo, Jn, Yp, Yq, Y6, Yr, Qd, Jo, Jp, Y7, Ys, Yt, Yu, Yv, Yw, Yx, Jq, Jr, Qr, Js, Yy, Qe, Qs, List.set_cons_zero, List.set_cons_succ, List.map_cons, List.map_nil, List.replicate, List.cons_append, List.nil_append, List.length_cons, List.length_nil, Bool.false_eq_true, eq_self, if_true, if_false, Nat.zero_add, Jt, Yz, Ju, Jv, Jw, Y0, Jx, true_and, isnot_anyG]
    refine left_spec hL hc hs ?_
    simp only [Y1, Qf, Qt, Qu, Qa, Qg, Qv, Qw, Qx, Qy, Qh, Qz, Jy, Qi, Qb, Qj, Qk, Q0, Jz, Q1, Q2, J0, Q3, Q4, J1, Ql, Qm, Qn, Q5, Qo, Q6, Qp, Q7, Q8, J2, Q9, Ja, J3, J4, J5, Jb, J6, J7, Jc, J8, J9, Jd, Je, Ya, Jf, Yb, Jg, Jh, Y8, Yc, Ji, Yd, Ye, Yf, Yg, Yh, Y2, Jj, Qq, Jk, Yi, Jl, Jm, Yj, Y3, Yk, Yl, Y4, Ym, Y5, Yn, Qc, Yo, Jn, Yp, Yq, Y6, Yr, Qd, Jo, Jp, Y7, Ys, Yt, Yu, Yv, Yw, Yx, Jq, Jr, Qr, Js, Yy, Qe, Qs, List.set_cons_zero, List.set_cons_succ, List.map_cons, List.map_nil, List.replicate, List.cons_append, List.nil_append, List.length_cons, List.length_nil, Bool.false_eq_true, eq_self, if_true, if_false, Nat.zero_add, Jt, Yz, Ju, Jv, Jw, Y0, Jx, true_and, ints_nil hll hlf]
    cases hl : leftF c pl with
    | nil =>
      have h1 : canJ c name (j + 1) pl = true := by rw [hcan, hnb, hl]; rfl
      simp only [Y1, Qf, Qt, Qu, Qa, Qg, Qv, Qw, Qx, Qy, Qh, Qz, Jy, Qi, Qb, Qj, Qk, Q0, Jz, Q1, Q2, J0, Q3, Q4, J1, Ql, Qm, Qn, Q5, Qo, Q6, Qp, Q7, Q8, J2, Q9, Ja, J3, J4, J5, Jb, J6, J7, Jc, J8, J9, Jd, Je, Ya, Jf, Yb, Jg, Jh, Y8, Yc, Ji, Yd, Ye, Yf, Yg, Yh, Y2, Jj, Qq, Jk, Yi, Jl, Jm, Yj, Y3, Yk, Yl, Y4, Ym, Y5, Yn, Qc, Yo, Jn, Yp, Yq, Y6, Yr, Qd, Jo, Jp, Y7, Ys, Yt, Yu, Yv, Yw, Yx, Jq, Jr, Qr, Js, Yy, Qe, Qs, List.set_cons_zero, List.set_cons_succ, List.map_cons, List.map_nil, List.replicate, List.cons_append, List.nil_append, List.length_cons, List.length_nil, Bool.false_eq_true, eq_self, if_true, if_false, Nat.zero_add, Jt, Yz, Ju, Jv, Jw, Y0, Jx, true_and, List.isEmpty_nil]
      repeat (refine ⟨by decide, ?_⟩)
      refine he c name pl n s _ hc hn hpl hf hs fun g hg => ?_
      simp only [Y1, Qf, Qt, Qu, Qa, Qg, Qv, Qw, Qx, Qy, Qh, Qz, Jy, Qi, Qb, Qj, Qk, Q0, Jz, Q1, Q2, J0, Q3, Q4, J1, Ql, Qm, Qn, Q5, Qo, Q6, Qp, Q7, Q8, J2, Q9, Ja, J3, J4, J5, Jb, J6, J7, Jc, J8, J9, Jd, Je, Ya, Jf, Yb, Jg, Jh, Y8, Yc, Ji, Yd, Ye, Yf, Yg, Yh, Y2, Jj, Qq, Jk, Yi, Jl, Jm, Yj, Y3, Yk, Yl, Y4, Ym, Y5, Yn, Qc, Yo, Jn, Yp, Yq, Y6, Yr, Qd, Jo, Jp, Y7, Ys, Yt, Yu, Yv, Yw, Yx, Jq, Jr, Qr, Js, Yy, Qe, Qs, List.set_cons_zero, List.set_cons_succ, List.map_cons, List.map_nil, List.replicate, List.cons_append, List.nil_append, List.length_cons, List.length_nil, Bool.false_eq_true, eq_self, if_true, if_false, Nat.zero_add, Jt, Yz, Ju, Jv, Jw, Y0, Jx, true_and]
      repeat (refine ⟨by decide, ?_⟩)
      exact fin_any (fun n => nofun) (hTe h1 _ (below_encE _ _ _))
    | cons k ks =>
      obtain ⟨p, hp, hpo, hk0⟩ := leftF_mem.mp (show k ∈ leftF c pl by rw [hl]; exact List.mem_cons_self)
      have hpb := hc.piles p (List.mem_of_getElem? hp)
      have hno := hpb.noth
      have i0 : ∀ s : Sto, gIx (.ls ((k :: ks).map fun k : Nat => Dv.int (k : Int))) (.int 0) s = .ok (.int (k : Nat)) s := fun s => ix_ls (by decide) rfl
      have ip : ∀ s : Sto, gIx (.tup (c.piles.map encP)) (.int (k : Nat)) s = .ok (encP p) s := fun s => ix_tupN (by rw [List.getElem?_map, hp]; rfl)
      have ip0 : ∀ s : Sto, gIx (encP p) (.int 0) s = .ok (.str p.name) s := fun s => rfl
      have ip3 : ∀ s : Sto, gIx (encP p) (.int 3) s = .ok (encS p.others) s := fun s => rfl
      have ea : ∀ s : Sto, gAdd (.tup [.str p.name]) (encS p.others) s = .ok (.tup ((namP p).map .str)) s := fun s => add_tupD (a := [Dv.str p.name]) (b := p.others.map .str) (s := s) (by rw [List.length_map]; simp only [List.length_singleton]; omega)
      have hnl : (namP p).length ≤ 3 := by unfold namP; rw [List.length_cons]; omega
      have hcan2 : canJ c name (j + 1) pl = (namP p).any fun z => canJ c name j (pl ++ [(k, z)]) := by
        rw [hcan, hnb, hl]
        simp only [hp, Option.isNone_none, Bool.true_and]
      have hil : ∀ z ∈ namP p, z ∈ c.lots := fun z hz => by
        rcases List.mem_cons.mp hz with h | h
        · rw [h]; exact hpb.name
        · exact (hpb.oth z h).1
      rw [← hl] at i0
      have em : (Dv.int ((k : Nat) : Int) :: ks.map fun k : Nat => Dv.int (k : Int)) = (leftF c pl).map fun k : Nat => Dv.int (k : Int) := by rw [hl]; rfl
      simp only [Y1, Qf, Qt, Qu, Qa, Qg, Qv, Qw, Qx, Qy, Qh, Qz, Jy, Qi, Qb, Qj, Qk, Q0, Jz, Q1, Q2, J0, Q3, Q4, J1, Ql, Qm, Qn, Q5, Qo, Q6, Qp, Q7, Q8, J2, Q9, Ja, J3, J4, J5, Jb, J6, J7, Jc, J8, J9, Jd, Je, Ya, Jf, Yb, Jg, Jh, Y8, Yc, Ji, Yd, Ye, Yf, Yg, Yh, Y2, Jj, Qq, Jk, Yi, Jl, Jm, Yj, Y3, Yk, Yl, Y4, Ym, Y5, Yn, Qc, Yo, Jn, Yp, Yq, Y6, Yr, Qd, Jo, Jp, Y7, Ys, Yt, Yu, Yv, Yw, Yx, Jq, Jr, Qr, Js, Yy, Qe, Qs, List.set_cons_zero, List.set_cons_succ, List.map_cons, List.map_nil, List.replicate, List.cons_append, List.nil_append, List.length_cons, List.length_nil, Bool.false_eq_true, eq_self, if_true, if_false, Nat.zero_add, Jt, Yz, Ju, Jv, Jw, Y0, Jx, true_and, List.isEmpty_cons]
      repeat (refine ⟨by decide, ?_⟩)
      rw [em]
      simp only [Y1, Qf, Qt, Qu, Qa, Qg, Qv, Qw, Qx, Qy, Qh, Qz, Jy, Qi, Qb, Qj, Qk, Q0, Jz, Q1, Q2, J0, Q3, Q4, J1, Ql, Qm, Qn, Q5, Qo, Q6, Qp, Q7, Q8, J2, Q9, Ja, J3, J4, J5, Jb, J6, J7, Jc, J8, J9, Jd, Je, Ya, Jf, Yb, Jg, Jh, Y8, Yc, Ji, Yd, Ye, Yf, Yg, Yh, Y2, Jj, Qq, Jk, Yi, Jl, Jm, Yj, Y3, Yk, Yl, Y4, Ym, Y5, Yn, Qc, Yo, Jn, Yp, Yq, Y6, Yr, Qd, Jo, Jp, Y7, Ys, Yt, Yu, Yv, Yw, Yx, Jq, Jr, Qr, Js, Yy, Qe, Qs, List.set_cons_zero, List.set_cons_succ, List.map_cons, List.map_nil, List.replicate, List.cons_append, List.nil_append, List.length_cons, List.length_nil, Bool.false_eq_true, eq_self, if_true, if_false, Nat.zero_add, Jt, Yz, Ju, Jv, Jw, Y0, Jx, true_and, ixC1, i0, ip, ip0, ip3]
      repeat (refine ⟨by decide, ?_⟩)
      rw [ea, Y1]
      simp only [Y1, Qf, Qt, Qu, Qa, Qg, Qv, Qw, Qx, Qy, Qh, Qz, Jy, Qi, Qb, Qj, Qk, Q0, Jz, Q1, Q2, J0, Q3, Q4, J1, Ql, Qm, Qn, Q5, Qo, Q6, Qp, Q7, Q8, J2, Q9, Ja, J3, J4, J5, Jb, J6, J7, Jc, J8, J9, Jd, Je, Ya, Jf, Yb, Jg, Jh, Y8, Yc, Ji, Yd, Ye, Yf, Yg, Yh, Y2, Jj, Qq, Jk, Yi, Jl, Jm, Yj, Y3, Yk, Yl, Y4, Ym, Y5, Yn, Qc, Yo, Jn, Yp, Yq, Y6, Yr, Qd, Jo, Jp, Y7, Ys, Yt, Yu, Yv, Yw, Yx, Jq, Jr, Qr, Js, Yy, Qe, Qs, List.set_cons_zero, List.set_cons_succ, List.map_cons, List.map_nil, List.replicate, List.cons_append, List.nil_append, List.length_cons, List.length_nil, Bool.false_eq_true, eq_self, if_true, if_false, Nat.zero_add, Jt, Yz, Ju, Jv, Jw, Y0, Jx, true_and]
      refine ok_loop (fun i env s' => ∃ (v6 v7 v8 v9 : Option Dv) (parts : List Dv) (l : Sto), env = [some (encC c), some (.str name), some (.loc n), some .non, some (.ls ((leftF c pl).map fun k : Nat => Dv.int (k : Int))), some (.loc s.length), v6, v7, v8, v9, none, none] ∧ s' = s ++ .lst parts :: l ∧ belows 0 parts = true ∧ parts.length ≤ i ∧ Fl l ∧ ((namP p).take i).any (fun z => canJ c name j (pl ++ [(k, z)])) = false)
        (fun _ _ _ _ => rfl) (fun i d env s' hd q => ?_) (fun env s' q => ?_) ⟨none, none, none, none, [], [], rfl, rfl, rfl, Nat.le_refl _, Fl.nil, by simp⟩
      · obtain ⟨v6, v7, v8, v9, parts, l, rfl, rfl, q1, q2, q3, q4⟩ := q
        have hi := (List.getElem?_eq_some_iff.mp hd).1
        rw [List.length_map] at hi
        rw [List.getElem?_map] at hd
        obtain ⟨z, hz, rfl⟩ := Option.map_eq_some_iff.mp hd
        have hzm := List.mem_of_getElem? hz
        have hfS : Cl (s ++ .lst parts :: l) := hf.app (fun o ho => by
          rcases List.mem_cons.mp ho with h | h
          · rw [h]; exact q1
          · exact q3 o h)
        simp only [Y1, Qf, Qt, Qu, Qa, Qg, Qv, Qw, Qx, Qy, Qh, Qz, Jy, Qi, Qb, Qj, Qk, Q0, Jz, Q1, Q2, J0, Q3, Q4, J1, Ql, Qm, Qn, Q5, Qo, Q6, Qp, Q7, Q8, J2, Q9, Ja, J3, J4, J5, Jb, J6, J7, Jc, J8, J9, Jd, Je, Ya, Jf, Yb, Jg, Jh, Y8, Yc, Ji, Yd, Ye, Yf, Yg, Yh, Y2, Jj, Qq, Jk, Yi, Jl, Jm, Yj, Y3, Yk, Yl, Y4, Ym, Y5, Yn, Qc, Yo, Jn, Yp, Yq, Y6, Yr, Qd, Jo, Jp, Y7, Ys, Yt, Yu, Yv, Yw, Yx, Jq, Jr, Qr, Js, Yy, Qe, Qs, List.set_cons_zero, List.set_cons_succ, List.map_cons, List.map_nil, List.replicate, List.cons_append, List.nil_append, List.length_cons, List.length_nil, Bool.false_eq_true, eq_self, if_true, if_false, Nat.zero_add, Jt, Yz, Ju, Jv, Jw, Y0, Jx, true_and]
        refine hIn hl (hil z hzm) (S := s ++ .lst parts :: l) (a := s.length) (parts := parts) (by omega) q1 rfl bs_get hfS (by rw [List.getElem?_append_left (List.getElem?_eq_some_iff.mp hs).1]; exact hs) (fun hc1 x l2 hx => ?_) fun hc0 v7 v8 v9 x q hq hx => ?_
        · have h1 : canJ c name (j + 1) pl = true := by
            rw [hcan2]
            exact List.any_eq_true.mpr ⟨z, hzm, hc1⟩
          simp only [Y1, Qf, Qt, Qu, Qa, Qg, Qv, Qw, Qx, Qy, Qh, Qz, Jy, Qi, Qb, Qj, Qk, Q0, Jz, Q1, Q2, J0, Q3, Q4, J1, Ql, Qm, Qn, Q5, Qo, Q6, Qp, Q7, Q8, J2, Q9, Ja, J3, J4, J5, Jb, J6, J7, Jc, J8, J9, Jd, Je, Ya, Jf, Yb, Jg, Jh, Y8, Yc, Ji, Yd, Ye, Yf, Yg, Yh, Y2, Jj, Qq, Jk, Yi, Jl, Jm, Yj, Y3, Yk, Yl, Y4, Ym, Y5, Yn, Qc, Yo, Jn, Yp, Yq, Y6, Yr, Qd, Jo, Jp, Y7, Ys, Yt, Yu, Yv, Yw, Yx, Jq, Jr, Qr, Js, Yy, Qe, Qs, List.set_cons_zero, List.set_cons_succ, List.map_cons, List.map_nil, List.replicate, List.cons_append, List.nil_append, List.length_cons, List.length_nil, Bool.false_eq_true, eq_self, if_true, if_false, Nat.zero_add, Jt, Yz, Ju, Jv, Jw, Y0, Jx, true_and]
          rw [List.append_assoc]
          exact ok_gcC rfl hf (below_mono (Nat.zero_le _) (below_tup (belows_cons rfl (belows_cons hx rfl)))) (hTe h1 x hx)
        · refine ⟨_, _, _, _, parts ++ [x], l ++ [q], rfl, ?_, belows_app q1 (belows_cons hx rfl), by rw [List.length_append, List.length_singleton]; omega, q3.app hq, ?_⟩
          · rw [List.append_assoc, List.cons_append, bs_set]
          · rw [take_succ' hz, List.any_append, q4]
            simp [hc0]
      · obtain ⟨v6, v7, v8, v9, parts, l, rfl, rfl, q1, q2, q3, q4⟩ := q
        rw [List.length_map, List.take_length] at q4
        have h0 : canJ c name (j + 1) pl = false := by rw [hcan2]; exact q4
        simp only [Y1, Qf, Qt, Qu, Qa, Qg, Qv, Qw, Qx, Qy, Qh, Qz, Jy, Qi, Qb, Qj, Qk, Q0, Jz, Q1, Q2, J0, Q3, Q4, J1, Ql, Qm, Qn, Q5, Qo, Q6, Qp, Q7, Q8, J2, Q9, Ja, J3, J4, J5, Jb, J6, J7, Jc, J8, J9, Jd, Je, Ya, Jf, Yb, Jg, Jh, Y8, Yc, Ji, Yd, Ye, Yf, Yg, Yh, Y2, Jj, Qq, Jk, Yi, Jl, Jm, Yj, Y3, Yk, Yl, Y4, Ym, Y5, Yn, Qc, Yo, Jn, Yp, Yq, Y6, Yr, Qd, Jo, Jp, Y7, Ys, Yt, Yu, Yv, Yw, Yx, Jq, Jr, Qr, Js, Yy, Qe, Qs, List.set_cons_zero, List.set_cons_succ, List.map_cons, List.map_nil, List.replicate, List.cons_append, List.nil_append, List.length_cons, List.length_nil, Bool.false_eq_true, eq_self, if_true, if_false, Nat.zero_add, Jt, Yz, Ju, Jv, Jw, Y0, Jx, true_and, i0, tuple_loc bs_get]
        repeat (refine ⟨by decide, ?_⟩)
        exact ok_gcC rfl hf (below_mono (Nat.zero_le _) (below_tup (belows_cons rfl (belows_cons (below_tup (belows_cons rfl (belows_cons rfl (belows_cons (below_tup q1) rfl)))) rfl)))) (hTc h0 _ (below_tup (belows_cons rfl (belows_cons rfl (belows_cons (below_tup q1) rfl)))))
end Z

namespace Z
open PySem PySem.Spec L2

theorem search_all {φb φe : Phi} (hb : BarAtS φb) (he : EndOfS φe) : ∀ j : Nat, SearchS j (recZ 3 12 (fun ψ => bSearch φb φe bLeft (bSrIn ψ)) j)
  | 0 => fun c name pl n s T _ _ _ _ _ _ hj _ => absurd hj (Nat.not_lt_zero _)
  | j + 1 => search_step rfl rfl hb he (search_all hb he j)
theorem left_len {c : Cnt} (hc : CntB c) {pl : List (Nat × Str)} : (leftF c pl).length ≤ 10 := by
  have h : (leftF c pl).length ≤ (List.range c.piles.length).length := List.length_filter_le _ _
  rw [List.length_range] at h
  exact Nat.le_trans h hc.npiles
/-! ### firsts -/
def bFirsts (φs : Phi) : Fn Ct := fRet (fCall gTuple (fCons (fVal (fLc (fSrc (fBin gIx (fVar 0) (fC (.int 0)))) [1] (gNm 1) (fTest (fBin gEq (fBin gIx (fCall φs (fCons (fVar 0) (fCons (fVar 1) (fCons (fDict0) (fNil))))) (fC (.int 0))) (fC (.str (Str.ofString "end"))))) (fVar 1))) (fNil)))
def FirstsS (φ : Phi) : Prop := ∀ (c : Cnt) (s : Sto) (T : Dv → Sto → Prop), CntB c → Cl s → T (encS (c.lots.filter fun z => canJ c z 12 [])) s → OkE nX (φ [encC c] s) T
theorem firsts_spec {φs : Phi} (hs : SearchS 12 φs) : FirstsS (fDef 1 2 (bFirsts φs)) := by
  intro c s T hc hf hT
  have l6 := hc.len6
  have hne : Str.ofString "cases" ≠ Str.ofString "end" := by decide +kernel
  rw [ok_def]
  refine ⟨rfl, ?_⟩
  unfold bFirsts
  unfold SearchS at hs
  generalize Str.ofString "end" = we at hne hs
  generalize Str.ofString "cases" = wc at hne hs
  simp only [Y1, Qf, Qt, Qu, Qa, Qg, Qv, Qw, Qx, Qy, Qh, Qz, Jy, Qi, Qb, Qj, Qk, Q0, Jz, Q1, Q2, J0, Q3, Q4, J1, Ql, Qm, Qn, Q5, Qo, Q6, Qp, Q7, Q8, J2, Q9, Ja, J3, J4, J5, Jb, J6, J7, Jc, J8, J9, Jd, Je, Ya, Jf, Yb, Jg, Jh, Y8, Yc, Ji, Yd, Ye, Yf, Yg, Yh, Y2, Jj, Qq, Jk, Yi, Jl, Jm, Yj, Y3, Yk, Yl, Y4, Ym, Y5, Yn, Qc, Yo, Jn, Yp, Yq, Y6, Yr, Qd, Jo, Jp, Y7, Ys, Yt, Yu, Yv, Yw, Yx, Jq, Jr, Qr, Js, Yy, Qe, Qs, List.set_cons_zero, List.set_cons_succ, List.map_cons, List.map_nil, List.replicate, List.cons_append, List.nil_append, List.length_cons, List.length_nil, Bool.false_eq_true, eq_self, if_true, if_false, Nat.zero_add, Jt, Yz, Ju, Jv, Jw, Y0, Jx, true_and, ixC0]
  refine ⟨decide_eq_true (by rw [List.length_map]; omega), ?_⟩
  refine ok_lcI (fun i acc s' => acc = ((c.lots.take i).filter fun z => canJ c z 12 []).map .str ∧ ∃ l, s' = s ++ l ∧ Fl l) (fun _ _ _ _ => rfl) (fun i d acc s' hd q => ?_) (fun acc s' q => ?_) ⟨rfl, [], (List.append_nil s).symm, Fl.nil⟩
  · obtain ⟨rfl, l, rfl, hl⟩ := q
    rw [List.getElem?_map] at hd
    obtain ⟨z, hz, rfl⟩ := Option.map_eq_some_iff.mp hd
    have hzm := List.mem_of_getElem? hz
    have hl0 := left_len hc (pl := [])
    have hfd : Fl [Ob.dk []] := fun o ho => by rw [List.mem_singleton.mp ho]; rfl
    rw [take_succ' hz, List.filter_append, List.filter_cons, List.filter_nil]
    simp only [Y1, Qf, Qt, Qu, Qa, Qg, Qv, Qw, Qx, Qy, Qh, Qz, Jy, Qi, Qb, Qj, Qk, Q0, Jz, Q1, Q2, J0, Q3, Q4, J1, Ql, Qm, Qn, Q5, Qo, Q6, Qp, Q7, Q8, J2, Q9, Ja, J3, J4, J5, Jb, J6, J7, Jc, J8, J9, Jd, Je, Ya, Jf, Yb, Jg, Jh, Y8, Yc, Ji, Yd, Ye, Yf, Yg, Yh, Y2, Jj, Qq, Jk, Yi, Jl, Jm, Yj, Y3, Yk, Yl, Y4, Ym, Y5, Yn, Qc, Yo, Jn, Yp, Yq, Y6, Yr, Qd, Jo, Jp, Y7, Ys, Yt, Yu, Yv, Yw, Yx, Jq, Jr, Qr, Js, Yy, Qe, Qs, List.set_cons_zero, List.set_cons_succ, List.map_cons, List.map_nil, List.replicate, List.cons_append, List.nil_append, List.length_cons, List.length_nil, Bool.false_eq_true, eq_self, if_true, if_false, Nat.zero_add, Jt, Yz, Ju, Jv, Jw, Y0, Jx, true_and, wipeZ, ok_dict0A]
    refine hs c z [] _ _ _ hc hzm (fun x hx => (by cases hx)) (by decide) ((hf.app hl).app hfd) bs_get (by omega) fun x hx => ?_
    have i0 : ∀ (d e : Dv) (s : Sto), gIx (.tup [d, e]) (.int 0) s = .ok d s := fun _ _ _ => rfl
    simp only [Y1, Qf, Qt, Qu, Qa, Qg, Qv, Qw, Qx, Qy, Qh, Qz, Jy, Qi, Qb, Qj, Qk, Q0, Jz, Q1, Q2, J0, Q3, Q4, J1, Ql, Qm, Qn, Q5, Qo, Q6, Qp, Q7, Q8, J2, Q9, Ja, J3, J4, J5, Jb, J6, J7, Jc, J8, J9, Jd, Je, Ya, Jf, Yb, Jg, Jh, Y8, Yc, Ji, Yd, Ye, Yf, Yg, Yh, Y2, Jj, Qq, Jk, Yi, Jl, Jm, Yj, Y3, Yk, Yl, Y4, Ym, Y5, Yn, Qc, Yo, Jn, Yp, Yq, Y6, Yr, Qd, Jo, Jp, Y7, Ys, Yt, Yu, Yv, Yw, Yx, Jq, Jr, Qr, Js, Yy, Qe, Qs, List.set_cons_zero, List.set_cons_succ, List.map_cons, List.map_nil, List.replicate, List.cons_append, List.nil_append, List.length_cons, List.length_nil, Bool.false_eq_true, eq_self, if_true, if_false, Nat.zero_add, Jt, Yz, Ju, Jv, Jw, Y0, Jx, true_and, i0, eq_str]
    cases hcan : canJ c z 12 [] with
    | true =>
      simp only [Y1, Qf, Qt, Qu, Qa, Qg, Qv, Qw, Qx, Qy, Qh, Qz, Jy, Qi, Qb, Qj, Qk, Q0, Jz, Q1, Q2, J0, Q3, Q4, J1, Ql, Qm, Qn, Q5, Qo, Q6, Qp, Q7, Q8, J2, Q9, Ja, J3, J4, J5, Jb, J6, J7, Jc, J8, J9, Jd, Je, Ya, Jf, Yb, Jg, Jh, Y8, Yc, Ji, Yd, Ye, Yf, Yg, Yh, Y2, Jj, Qq, Jk, Yi, Jl, Jm, Yj, Y3, Yk, Yl, Y4, Ym, Y5, Yn, Qc, Yo, Jn, Yp, Yq, Y6, Yr, Qd, Jo, Jp, Y7, Ys, Yt, Yu, Yv, Yw, Yx, Jq, Jr, Qr, Js, Yy, Qe, Qs, List.set_cons_zero, List.set_cons_succ, List.map_cons, List.map_nil, List.replicate, List.cons_append, List.nil_append, List.length_cons, List.length_nil, Bool.false_eq_true, eq_self, if_true, if_false, Nat.zero_add, Jt, Yz, Ju, Jv, Jw, Y0, Jx, true_and, BEq.rfl]
      refine ⟨by simp, l ++ [.dk []], by rw [List.append_assoc], hl.app hfd⟩
    | false =>
      rw [if_neg Bool.false_ne_true, show (wc == we) = false by rw [beq_eq_false_iff_ne]; exact hne]
      simp only [Y1, Qf, Qt, Qu, Qa, Qg, Qv, Qw, Qx, Qy, Qh, Qz, Jy, Qi, Qb, Qj, Qk, Q0, Jz, Q1, Q2, J0, Q3, Q4, J1, Ql, Qm, Qn, Q5, Qo, Q6, Qp, Q7, Q8, J2, Q9, Ja, J3, J4, J5, Jb, J6, J7, Jc, J8, J9, Jd, Je, Ya, Jf, Yb, Jg, Jh, Y8, Yc, Ji, Yd, Ye, Yf, Yg, Yh, Y2, Jj, Qq, Jk, Yi, Jl, Jm, Yj, Y3, Yk, Yl, Y4, Ym, Y5, Yn, Qc, Yo, Jn, Yp, Yq, Y6, Yr, Qd, Jo, Jp, Y7, Ys, Yt, Yu, Yv, Yw, Yx, Jq, Jr, Qr, Js, Yy, Qe, Qs, List.set_cons_zero, List.set_cons_succ, List.map_cons, List.map_nil, List.replicate, List.cons_append, List.nil_append, List.length_cons, List.length_nil, Bool.false_eq_true, eq_self, if_true, if_false, Nat.zero_add, Jt, Yz, Ju, Jv, Jw, Y0, Jx, true_and]
      refine ⟨by simp, l ++ [.dk []], by rw [List.append_assoc], hl.app hfd⟩
  · obtain ⟨rfl, l, rfl, hl⟩ := q
    rw [List.length_map, List.take_length]
    simp only [Y1, Qf, Qt, Qu, Qa, Qg, Qv, Qw, Qx, Qy, Qh, Qz, Jy, Qi, Qb, Qj, Qk, Q0, Jz, Q1, Q2, J0, Q3, Q4, J1, Ql, Qm, Qn, Q5, Qo, Q6, Qp, Q7, Q8, J2, Q9, Ja, J3, J4, J5, Jb, J6, J7, Jc, J8, J9, Jd, Je, Ya, Jf, Yb, Jg, Jh, Y8, Yc, Ji, Yd, Ye, Yf, Yg, Yh, Y2, Jj, Qq, Jk, Yi, Jl, Jm, Yj, Y3, Yk, Yl, Y4, Ym, Y5, Yn, Qc, Yo, Jn, Yp, Yq, Y6, Yr, Qd, Jo, Jp, Y7, Ys, Yt, Yu, Yv, Yw, Yx, Jq, Jr, Qr, Js, Yy, Qe, Qs, List.set_cons_zero, List.set_cons_succ, List.map_cons, List.map_nil, List.replicate, List.cons_append, List.nil_append, List.length_cons, List.length_nil, Bool.false_eq_true, eq_self, if_true, if_false, Nat.zero_add, Jt, Yz, Ju, Jv, Jw, Y0, Jx, true_and, tuple_ls]
    exact ok_gcC rfl hf (below_encS _ _) hT
end Z

namespace Z
open PySem PySem.Spec L2

/-! ### plain: the search finds what all placings have -/
/-- all placings that go on from pl at pile i, m piles more -/
def extF (c : Cnt) : Nat → Nat → List (Nat × Str) → List (List (Nat × Str))
  | 0, _, pl => [pl]
  | m + 1, i, pl => match c.piles[i]? with
    | some p => if p.others.isEmpty = true then extF c m (i + 1) pl else (namP p).flatMap fun z => extF c m (i + 1) (pl ++ [(i, z)])
    | none => extF c m (i + 1) pl
theorem ext_place {c : Cnt} : ∀ (m i : Nat), placN c.piles (i + m) = (placN c.piles i).flatMap (extF c m i)
  | 0, i => by
    rw [Nat.add_zero]
    show _ = (placN c.piles i).flatMap fun pl => [pl]
    induction placN c.piles i with
    | nil => rfl
    | cons a r ih => rw [List.flatMap_cons, ← ih]; rfl
  | m + 1, i => by
    rw [show i + (m + 1) = i + 1 + m by omega, ext_place m (i + 1)]
    cases hp : c.piles[i]? with
    | none =>
      have e : placN c.piles (i + 1) = placN c.piles i := by simp only [placN, hp]
      rw [e]
      refine congrArg (fun f => (placN c.piles i).flatMap f) (funext fun pl => ?_)
      simp only [extF, hp]
    | some p =>
      rw [placN_succ hp]
      unfold plStep
      by_cases ho : p.others.isEmpty = true
      · rw [if_pos ho]
        refine congrArg (fun f => (placN c.piles i).flatMap f) (funext fun pl => ?_)
        simp only [extF, hp, if_pos ho]
      · rw [if_neg ho]
        unfold plsOf
        rw [List.flatMap_assoc]
        refine congrArg (fun f => (placN c.piles i).flatMap f) (funext fun pl => ?_)
        simp only [extF, hp, if_neg ho]
        rw [List.flatMap_map]
end Z

namespace Z
open PySem PySem.Spec L2

structure PreP (c : Cnt) (i : Nat) (pl : List (Nat × Str)) : Prop where
  keys : keysLt i pl
  all : ∀ (k : Nat) (p : Pil), k < i → c.piles[k]? = some p → p.others.isEmpty = false → lookP pl k ≠ none
theorem noBar_back {c : Cnt} (hc : CntB c) {name : Str} {pl : List (Nat × Str)} {k : Nat} {z : Str} (hk : lookP pl k = none) (hz : ∀ p, c.piles[k]? = some p → z ∈ namP p) (h : noBar c name (pl ++ [(k, z)]) = true) : noBar c name pl = true := by
  unfold noBar at h ⊢
  rw [Bool.not_eq_true', List.any_eq_false] at h ⊢
  intro r hr hb
  exact h r hr (bar_mono hc hk hz hb)
theorem left_head {c : Cnt} {i m : Nat} {pl : List (Nat × Str)} {p : Pil} (hn : i + (m + 1) = c.piles.length) (hP : PreP c i pl) (hp : c.piles[i]? = some p) (ho : p.others.isEmpty = false) : ∃ ks, leftF c pl = i :: ks := by
  unfold leftF
  rw [← hn, List.range_add, List.filter_append]
  have h0 : (List.range i).filter (fun k => match c.piles[k]? with | some p => !p.others.isEmpty && (lookP pl k).isNone | none => false) = [] := List.filter_eq_nil_iff.mpr fun k hk => by
    have hk := List.mem_range.mp hk
    cases hq : c.piles[k]? with
    | none => simp
    | some q =>
      cases hqo : q.others.isEmpty with
      | true => simp [hqo]
      | false =>
        have := hP.all k q hk hq hqo
        cases hl : lookP pl k with
        | none => exact absurd hl this
        | some y => simp
  erw [h0]
  rw [List.range_succ_eq_map, List.map_cons, List.filter_cons, Nat.add_zero, hp]
  have hk0 := keys_look hP.keys
  simp only [ho, hk0, Option.isNone_none, Bool.not_false, Bool.and_self, if_true, List.nil_append]
  exact ⟨_, rfl⟩
theorem left_nil {c : Cnt} {pl : List (Nat × Str)} (hP : PreP c c.piles.length pl) : leftF c pl = [] := by
  cases h : leftF c pl with
  | nil => rfl
  | cons k ks =>
    obtain ⟨p, h1, h2, h3⟩ := leftF_mem.mp (show k ∈ leftF c pl by rw [h]; exact List.mem_cons_self)
    exact absurd h3 (hP.all k p (List.getElem?_eq_some_iff.mp h1).1 h1 h2)
theorem can_ext {c : Cnt} (hc : CntB c) {name : Str} : ∀ (m i j : Nat) (pl : List (Nat × Str)), i + m = c.piles.length → PreP c i pl → (leftF c pl).length < j → canJ c name j pl = (extF c m i pl).any (noBar c name)
  | 0, i, 0, pl, _, _, hj => absurd hj (Nat.not_lt_zero _)
  | 0, i, j + 1, pl, hn, hP, hj => by
    have hi : i = c.piles.length := by omega
    subst hi
    simp only [canJ, left_nil hP, extF, List.any_cons, List.any_nil, Bool.and_true, Bool.or_false]
  | m + 1, i, j, pl, hn, hP, hj => by
    have hi : i < c.piles.length := by omega
    have hp : c.piles[i]? = some c.piles[i] := List.getElem?_eq_getElem hi
    generalize c.piles[i] = p at hp
    have up : ∀ q : List (Nat × Str), keysLt (i + 1) q → (∀ k y, lookP pl k = some y → lookP q k ≠ none) → (p.others.isEmpty = false → lookP q i ≠ none) → PreP c (i + 1) q := fun q h1 h2 h3 => ⟨h1, fun k r hk hr hro => by
      by_cases e : k = i
      · subst e
        rw [hp] at hr
        cases hr
        exact h3 hro
      · have := hP.all k r (by omega) hr hro
        cases hl : lookP pl k with
        | none => exact absurd hl this
        | some y => exact h2 k y hl⟩
    cases ho : p.others.isEmpty with
    | true =>
      have e : extF c (m + 1) i pl = extF c m (i + 1) pl := by simp only [extF, hp, ho, if_true]
      rw [e]
      exact can_ext hc m (i + 1) j pl (by omega) (up pl (fun x hx => Nat.lt_succ_of_lt (hP.keys x hx)) (fun k y h => by rw [h]; simp) (fun h => by rw [ho] at h; cases h)) hj
    | false =>
      have e : extF c (m + 1) i pl = (namP p).flatMap fun z => extF c m (i + 1) (pl ++ [(i, z)]) := by simp only [extF, hp, ho, Bool.false_eq_true, if_false]
      obtain ⟨ks, hks⟩ := left_head (m := m) hn hP hp ho
      have hk0 := keys_look hP.keys
      cases j with
      | zero => exact absurd hj (Nat.not_lt_zero _)
      | succ j =>
        have ih : ∀ z, canJ c name j (pl ++ [(i, z)]) = (extF c m (i + 1) (pl ++ [(i, z)])).any (noBar c name) := fun z => by
          refine can_ext hc m (i + 1) j _ (by omega) (up _ (fun x hx => ?_) (fun k y h => by rw [look_app, h]; simp) (fun _ => by rw [look_app, hk0]; simp)) ?_
          · rcases List.mem_append.mp hx with h | h
            · exact Nat.lt_succ_of_lt (hP.keys x h)
            · rw [List.mem_singleton.mp h]; exact Nat.lt_succ_self i
          · have := left_app (z := z) (show i ∈ leftF c pl by rw [hks]; exact List.mem_cons_self)
            omega
        rw [e, List.any_flatMap]
        simp only [canJ, hks, hp]
        have ef : (fun z => canJ c name j (pl ++ [(i, z)])) = fun z => (extF c m (i + 1) (pl ++ [(i, z)])).any (noBar c name) := funext ih
        rw [← ef]
        cases ha : (namP p).any fun z => canJ c name j (pl ++ [(i, z)]) with
        | false => rw [Bool.and_false]
        | true =>
          obtain ⟨z, hz, hcz⟩ := List.any_eq_true.mp ha
          have hnb : noBar c name (pl ++ [(i, z)]) = true := by
            cases j with
            | zero => cases hcz
            | succ j =>
              have hcz : (noBar c name (pl ++ [(i, z)]) && _) = true := hcz
              rw [Bool.and_eq_true] at hcz
              exact hcz.1
          rw [noBar_back hc hk0 (fun q hq => by rw [hp] at hq; cases hq; exact hz) hnb, Bool.and_true]
end Z

namespace Z
open PySem PySem.Spec L2

/-! ### margins where nothing is refused -/
def bNeedN : Fn Ct := fFor (fSrc (fVar 1)) (gNm 2) (fIfS (fTest (fBin gNotIn (fVar 2) (fBin gIx (fVar 0) (fC (.int 0))))) (fNever) (fNop))
def NeedN (φ : Phi) : Prop := ∀ (c : Cnt) (xs : List Str) (s : Sto) (T : Dv → Sto → Prop), (∀ x ∈ xs, x ∈ c.lots) → T .non s → OkE nX (φ [encC c, encS xs] s) T
def bMarginN (φn φp : Phi) : Fn Ct :=
  fSeq (fDrop (fCall φn (fCons (fVar 0) (fCons (fTup (fCons (fVar 2) (fCons (fVar 3) (fNil)))) (fNil)))))
  (fSeq (fSet 4 (fVal (fLc (fSrc (fBin gIx (fVar 1) (fC (.int 0)))) [5, 6] (gTp 2 (gsCons (gNm 5) (gsCons (gNm 6) (gsNil)))) (fYes) (fCall φp (fCons (fVar 5) (fCons (fVar 6) (fCons (fVar 2) (fCons (fVar 3) (fNil)))))))))
  (fRet (fSumS (fVar 4) (fCall gSum (fCons (fVal (fLc (fSrc (fBin gIx (fVar 1) (fC (.int 1)))) [5] (gNm 5) (fYes) (fCall φp (fCons (fVar 5) (fCons (fC (.int 1)) (fCons (fVar 2) (fCons (fVar 3) (fNil)))))))) (fNil))))))
def MarginN (φ : Phi) : Prop := ∀ (c : Cnt) (laid : List (Str × Int)) (ds : List Str) (one other : Str) (s : Sto) (T : Dv → Sto → Prop), one ∈ c.lots → other ∈ c.lots → laid.length ≤ 1000 → ds.length ≤ 1000 → T (.int (marg (allL laid ds) one other)) s → OkE nX (φ [encC c, encE laid ds, .str one, .str other] s) T
/-! ### the worst -/
noncomputable def bWorstN (φn φw φm : Phi) : Fn Ct :=
  fSeq (fDrop (fCall φn (fCons (fVar 0) (fCons (fTup (fCons (fVar 1) (fCons (fVar 2) (fNil)))) (fNil)))))
  (fSeq (fSet 4 (fCall φw (fCons (fVar 0) (fCons (fVar 1) (fCons (fVar 2) (fCons (fVar 3) (fNil)))))))
  (fRet (fTup (fCons (fCall φm (fCons (fVar 0) (fCons (fVar 4) (fCons (fVar 1) (fCons (fVar 2) (fNil)))))) (fCons (fVar 4) (fNil))))))
def WorstN (φ : Phi) : Prop := ∀ (c : Cnt) (one other : Str) (s : Sto) (T : Dv → Sto → Prop), CntB c → Fl s → one ∈ c.lots → other ∈ c.lots → (∀ (laid : List (Str × Int)) (ds : List Str), EndB c laid ds → marg (allL laid ds) one other = leastB c one other → T (.tup [.int (leastB c one other), encE laid ds]) s) → OkE nX (φ [encC c, .str one, .str other, .bl false] s) T
/-! ### who is surely ahead -/
noncomputable def bSurelyN (φw : Phi) : Fn Ct :=
  fSeq (fSet 3 (fBin gIx (fCallD φw [.bl false] (fCons (fVar 0) (fCons (fVar 1) (fCons (fVar 2) (fNil))))) (fC (.int 0))))
  (fSeq (fIfS (fTest (fBin gEq (fVar 3) (fC (.int 0)))) (fRet (fBin gLt (fIndex (fBin gIx (fVar 0) (fC (.int 0))) (fCons (fVar 1) (fNil))) (fIndex (fBin gIx (fVar 0) (fC (.int 0))) (fCons (fVar 2) (fNil))))) (fNop))
  (fRet (fBin gGt (fVar 3) (fC (.int 0)))))
def SurelyN (φ : Phi) : Prop := ∀ (c : Cnt) (one other : Str) (s : Sto) (T : Dv → Sto → Prop), CntB c → Fl s → one ∈ c.lots → other ∈ c.lots → T (.bl (sureB c one other)) s → OkE nX (φ [encC c, .str one, .str other] s) T
def bAllAhead (φs : Phi) (i j : Nat) (fc fl : Fn Dv) : Fn Dv := fCall gAll (fCons (fVal (fLc (fSrc fl) [i] (gNm i) (fTest (fBin gNe (fVar i) (fVar j))) (fCall φs (fCons fc (fCons (fVar j) (fCons (fVar i) (fNil))))))) (fNil))
def encOS : Option Str → Dv
  | none => .non
  | some x => .str x
noncomputable def bFirstN (φs : Phi) : Fn Ct :=
  fSeq (fFor (fSrc (fBin gIx (fVar 0) (fC (.int 0)))) (gNm 1) (fIfS (fTest (fCall gAll (fCons (fVal (fLc (fSrc (fBin gIx (fVar 0) (fC (.int 0)))) [2] (gNm 2) (fTest (fBin gNe (fVar 2) (fVar 1))) (fCall φs (fCons (fVar 0) (fCons (fVar 1) (fCons (fVar 2) (fNil))))))) (fNil)))) (fRet (fVar 1)) (fNop)))
  (fRet (fC .non))
/-- who is first for sure -/
def IsDue (c : Cnt) (o : Option Str) : Prop := match o with
  | none => ∀ x ∈ c.lots, aheadAll c x = false
  | some x => x ∈ c.lots ∧ aheadAll c x = true
theorem IsDue.one {c : Cnt} (hc : CntB c) {o p : Option Str} (h : IsDue c o) (h2 : IsDue c p) : o = p := by
  match o, p, h, h2 with
  | none, none, _, _ => rfl
  | none, some y, h, h2 => have := h y h2.1; rw [h2.2] at this; cases this
  | some x, none, h, h2 => have := h2 x h.1; rw [h.2] at this; cases this
  | some x, some y, h, h2 => rw [aheadAll_one hc h.1 h2.1 h.2 h2.2]
def FirstN (φ : Phi) : Prop := ∀ (c : Cnt) (s : Sto) (T : Dv → Sto → Prop), CntB c → Fl s → (∀ o, IsDue c o → T (encOS o) s) → OkE nX (φ [encC c] s) T
end Z

namespace Z
open PySem PySem.Spec L2

/-! ### the law's own least margin -/
def toldP (p : Pil) : Pil := ⟨p.name, p.many, 0, []⟩
def toldQ (b : Bool) (p : Pil) : Pil := if b = true then toldP p else p
/-- the least margin where piles stay as told, or not -/
def leastQ (b : Bool) (c : Cnt) (one other : Str) : Int := (c.piles.map fun p => ptP one other (toldQ b p)).sum + (c.doubts.map (ptD one other)).sum
def valN (one other : Str) (xs : List Str) (lo hi : Int) : Int := if one = other then 0 else if other ∈ xs then -hi else if xs = [one] then lo else 0
def bLLc (lo hi : Fn Dv) : Fn Ct := (fIfS (fAndT (fTest (fBin gNe (fVar 1) (fVar 2))) (fTest (fBin gIn (fVar 2) (fVar 9)))) (fSet 4 (fBin gSub (fVar 4) hi)) (fIfS (fAndT (fTest (fBin gNe (fVar 1) (fVar 2))) (fTest (fBin gEq (fVar 9) (fTup (fCons (fVar 1) (fNil)))))) (fSet 4 (fBin gAdd (fVar 4) lo)) (fNop)))
def bLLp (bc : Fn Ct) : Fn Ct :=
  (fSeq (fSet 9 (fBin gAdd (fTup (fCons (fVar 5) (fNil))) (fVar 8)))
  (fSeq (fAsg (fIf (fTest (fVar 3)) (fTup (fCons (fVar 6) (fCons (fVar 6) (fNil)))) (fTup (fCons (fCall (gTwo fun i j => if j > i then j else i) (fCons (fC (.int 0)) (fCons (fBin gSub (fVar 6) (fVar 7)) (fNil)))) (fCons (fBin gAdd (fVar 6) (fVar 7)) (fNil))))) (gTp 2 (gsCons (gNm 10) (gsCons (gNm 11) (gsNil)))))
  (fSeq (fSet 9 (fIf (fTest (fVar 3)) (fSl (fVar 9) (fNoPart) (fPart (fC (.int 1)))) (fVar 9)))
  bc)))
def bLL (bp bd : Fn Ct) : Fn Ct :=
  fSeq (fSet 4 (fC (.int 0)))
  (fSeq (fFor (fSrc (fBin gIx (fVar 0) (fC (.int 1)))) (gTp 4 (gsCons (gNm 5) (gsCons (gNm 6) (gsCons (gNm 7) (gsCons (gNm 8) (gsNil)))))) bp)
  (fSeq (fFor (fSrc (fBin gIx (fVar 0) (fC (.int 2)))) (gNm 9) bd)
  (fRet (fVar 4))))
def LeastL (φ : Phi) : Prop := ∀ (b : Bool) (c : Cnt) (one other : Str) (s : Sto) (T : Dv → Sto → Prop), CntB c → one ∈ c.lots → T (.int (leastQ b c one other)) s → OkE nX (φ [encC c, .str one, .str other, .bl b] s) T
/-! ### the law's own surely -/
noncomputable def bSureL (φl : Phi) : Fn Ct :=
  fSeq (fSet 3 (fCall φl (fCons (fVar 0) (fCons (fVar 1) (fCons (fVar 2) (fCons (fC (.bl false)) (fNil)))))))
  (fSeq (fIfS (fOrT (fTest (fBin gEq (fVar 1) (fVar 2))) (fTest (fBin gLt (fVar 3) (fC (.int 0))))) (fRet (fC (.bl false))) (fNop))
  (fRet (fOr (fBin gGt (fVar 3) (fC (.int 0))) (fBin gLt (fIndex (fBin gIx (fVar 0) (fC (.int 0))) (fCons (fVar 1) (fNil))) (fIndex (fBin gIx (fVar 0) (fC (.int 0))) (fCons (fVar 2) (fNil)))))))
end Z

namespace Z
open PySem PySem.Spec L2

/-! ### who is ahead in a tally -/
def bAheadL : Fn Ct :=
  fSeq (fIfS (fTest (fBin gEq (fBin gIx (fVar 1) (fVar 2)) (fBin gIx (fVar 1) (fVar 3)))) (fRet (fBin gLt (fIndex (fVar 0) (fCons (fVar 2) (fNil))) (fIndex (fVar 0) (fCons (fVar 3) (fNil))))) (fNop))
  (fRet (fBin gGt (fBin gIx (fVar 1) (fVar 2)) (fBin gIx (fVar 1) (fVar 3))))
def AheadL (φ : Phi) : Prop := ∀ (lots : List Str) (v : Str → Int) (n : Nat) (one other : Str) (s : Sto) (T : Dv → Sto → Prop), s[n]? = some (.dk (nmKv lots v)) → one ∈ lots → other ∈ lots → T (.bl (aheadV lots v one other)) s → OkE nX (φ [encS lots, .loc n, .str one, .str other] s) T
noncomputable def bFirstL (φa : Phi) : Fn Ct :=
  fSeq (fSet 2 (fBin gIx (fVar 0) (fC (.int 0))))
  (fSeq (fFor (fSrc (fSl (fVar 0) (fPart (fC (.int 1))) (fNoPart))) (gNm 3) (fSet 2 (fIf (fTest (fCall φa (fCons (fVar 0) (fCons (fVar 1) (fCons (fVar 2) (fCons (fVar 3) (fNil))))))) (fVar 2) (fVar 3))))
  (fRet (fVar 2)))
/-- of a name that is ahead of all others the law finds that it is first -/
def FirstL (φ : Phi) : Prop := ∀ (lots : List Str) (v : Str → Int) (n : Nat) (x : Str) (s : Sto) (T : Dv → Sto → Prop), s[n]? = some (.dk (nmKv lots v)) → x ∈ lots → (∀ y ∈ lots, y ≠ x → aheadV lots v x y = true) → T (.str x) s → OkE nX (φ [encS lots, .loc n] s) T
/-! ### all asked of a count -/
noncomputable def bRightA (φf φl φn : Phi) (bl : Fn Ct) : Fn Ct :=
  (fSeq (fIfS (fNotT (fTest (fCall φl (fCons (fCall φf (fCons (fVar 1) (fNil))) (fCons (fVar 3) (fNil)))))) (fRet (fC (.bl false))) (fNop))
  (fSeq (fFor (fRng1 (fCons (fC (.int 3)) (fNil))) (gNm 5) bl)
  (fRet (fC (.bl true)))))
noncomputable def bRightB (φe φt φx : Phi) : Fn Ct :=
  (fSeq (fSet 6 (fCall φt (fCons (fVar 2) (fCons (fCall φe (fCons (fVar 0) (fCons (fVar 1) (fNil)))) (fNil)))))
  (fIfS (fAndT (fTest (fBin gIsNot (fVar 3) (fC .non))) (fTest (fBin gNe (fCall φx (fCons (fVar 2) (fCons (fVar 6) (fNil)))) (fVar 3)))) (fRet (fC (.bl false))) (fNop)))
noncomputable def bRight25 (φs : Phi) (ba : Fn Ct) : Fn Ct :=
  fSeq (fSet 2 (fBin gIx (fVar 1) (fC (.int 0))))
  (fSeq (fSet 3 (fC .non))
  (fSeq (fFor (fSrc (fVar 2)) (gNm 4) (fIfS (fTest (fCall gAll (fCons (fVal (fLc (fSrc (fVar 2)) [7] (gNm 7) (fTest (fBin gNe (fVar 7) (fVar 4))) (fCall φs (fCons (fVar 1) (fCons (fVar 4) (fCons (fVar 7) (fNil))))))) (fNil)))) (fSet 3 (fVar 4)) (fNop)))
  ba))
def Right25 (φ : Phi) : Prop := ∀ (f : Feed) (r : Sto) (c : Cnt), CntB c → f.Wf → f.calls + 1000 ≤ 1000000 → Fl r → OkE nX (φ [.loc 0, encC c] (feedOb f :: r)) fun d s' => d = .bl true ∧ ∃ f' : Feed, s' = feedOb f' :: r ∧ f'.Wf ∧ f.calls ≤ f'.calls ∧ f'.calls ≤ f.calls + 180
/-! ### a pile more -/
noncomputable def bMore (φd : Phi) : Fn Ct :=
  fSeq (fAsg (fVar 1) (gTp 3 (gsCons (gNm 2) (gsCons (gNm 3) (gsCons (gNm 4) (gsNil))))))
  (fSeq (fSet 6 (fBin gAdd (fCall gSum (fCons (fVal (fLc (fSrc (fVar 3)) [7, 5, 8, 9] (gTp 4 (gsCons (gNm 7) (gsCons (gNm 5) (gsCons (gNm 8) (gsCons (gNm 9) (gsNil)))))) (fYes) (fBin gAdd (fVar 5) (fVar 8)))) (fNil))) (fCall gLen (fCons (fVar 4) (fNil)))))
  (fSeq (fSet 5 (fCall (gTwo fun i j => if j < i then j else i) (fCons (fBin gPow (fC (.int 10)) (fC (.int 6))) (fCons (fBin gIx (fVal (fLst (fCons (fVar 6) (fCons (fBin gAdd (fVar 6) (fC (.int 1))) (fCons (fBin gDiv (fVar 6) (fC (.int 2))) (fCons (fC (.int 3)) (fNil))))))) (fCall φd (fCons (fVar 0) (fCons (fC (.int 4)) (fNil))))) (fNil)))))
  (fRet (fTup (fCons (fVar 2) (fCons (fBin gAdd (fSl (fVar 3) (fNoPart) (fPart (fC (.int 9)))) (fTup (fCons (fTup (fCons (fBin gIx (fVar 2) (fCall φd (fCons (fVar 0) (fCons (fCall gLen (fCons (fVar 2) (fNil))) (fNil))))) (fCons (fVar 5) (fCons (fCall φd (fCons (fVar 0) (fCons (fC (.int 2)) (fNil)))) (fCons (fTup (fNil)) (fNil)))))) (fNil)))) (fCons (fVar 4) (fNil))))))))
def MoreB (φ : Phi) : Prop := ∀ (f : Feed) (r : Sto) (c : Cnt), CntB c → f.Wf → f.calls + 100 ≤ 1000000 → Fl r → OkE nX (φ [.loc 0, encC c] (feedOb f :: r)) fun d s' => ∃ (c' : Cnt) (f' : Feed), d = encC c' ∧ CntB c' ∧ s' = feedOb f' :: r ∧ f'.Wf ∧ f.calls ≤ f'.calls ∧ f'.calls ≤ f.calls + 3
theorem sum_nonneg {α : Type} {f : α → Int} : ∀ {xs : List α}, (∀ x ∈ xs, 0 ≤ f x) → 0 ≤ (xs.map f).sum
  | [], _ => Int.le_refl _
  | x :: xs, h => by
    have h0 := h x List.mem_cons_self
    have ih := sum_nonneg (xs := xs) fun y hy => h y (List.mem_cons_of_mem _ hy)
    simp only [List.map_cons, List.sum_cons]
    omega
end Z

namespace Z
open PySem PySem.Spec L2

theorem pre_nil {c : Cnt} : PreP c 0 [] := ⟨fun x hx => (by cases hx), fun k p hk => absurd hk (Nat.not_lt_zero _)⟩
theorem can_all {c : Cnt} (hc : CntB c) {name : Str} : canJ c name 12 [] = (placN c.piles c.piles.length).any (noBar c name) := by
  have hl := left_len hc (pl := [])
  rw [can_ext hc c.piles.length 0 12 [] (Nat.zero_add _) pre_nil (by omega)]
  have h := ext_place (c := c) c.piles.length 0
  rw [Nat.zero_add] at h
  rw [h]
  simp [placN]
def bNear34 (φd : Phi) : Fn Ct :=
  fSeq (fAsg (fVar 1) (gTp 3 (gsCons (gNm 2) (gsCons (gNm 3) (gsCons (gNm 4) (gsNil))))))
  (fSeq (fSet 6 (fBin gAdd (fCall gSum (fCons (fVal (fLc (fSrc (fVar 3)) [7, 5, 8, 9] (gTp 4 (gsCons (gNm 7) (gsCons (gNm 5) (gsCons (gNm 8) (gsCons (gNm 9) (gsNil)))))) (fYes) (fVar 5))) (fNil))) (fCall gLen (fCons (fVar 4) (fNil)))))
  (fSeq (fSet 5 (fCall (gTwo fun i j => if j < i then j else i) (fCons (fBin gPow (fC (.int 10)) (fC (.int 6))) (fCons (fBin gAdd (fBin gDiv (fVar 6) (fBin gAdd (fC (.int 2)) (fCall φd (fCons (fVar 0) (fCons (fC (.int 2)) (fNil)))))) (fCall φd (fCons (fVar 0) (fCons (fC (.int 3)) (fNil))))) (fNil)))))
  (fRet (fTup (fCons (fVar 2) (fCons (fBin gAdd (fVar 3) (fTup (fCons (fTup (fCons (fBin gIx (fVar 2) (fCall φd (fCons (fVar 0) (fCons (fCall gLen (fCons (fVar 2) (fNil))) (fNil))))) (fCons (fVar 5) (fCons (fC (.int 0)) (fCons (fTup (fNil)) (fNil)))))) (fNil)))) (fCons (fVar 4) (fNil))))))))
def Near34 (φ : Phi) : Prop := ∀ (f : Feed) (r : Sto) (c : Cnt), CntB c → c.piles.length ≤ 9 → f.Wf → f.calls + 100 ≤ 1000000 → Fl r → OkE nX (φ [.loc 0, encC c] (feedOb f :: r)) fun d s' => ∃ (c' : Cnt) (f' : Feed), d = encC c' ∧ CntB c' ∧ s' = feedOb f' :: r ∧ f'.Wf ∧ f.calls ≤ f'.calls ∧ f'.calls ≤ f.calls + 3
theorem near34_spec {φd : Phi} (hd : DrawS φd) : Near34 (fDef 2 10 (bNear34 φd)) := by
  intro f r c hc hc9 hw hcl hf
  have nd := hc.ndoubts
  have l6 := hc.len6
  have l2 := hc.len2
  rw [ok_def]
  refine ⟨rfl, ?_⟩
  unfold bNear34
  simp only [Y1, Qf, Qt, Qu, Qa, Qg, Qv, Qw, Qx, Qy, Qh, Qz, Jy, Qi, Qb, Qj, Qk, Q0, Jz, Q1, Q2, J0, Q3, Q4, J1, Ql, Qm, Qn, Q5, Qo, Q6, Qp, Q7, Q8, J2, Q9, Ja, J3, J4, J5, Jb, J6, J7, Jc, J8, J9, Jd, Je, Ya, Jf, Yb, Jg, Jh, Y8, Yc, Ji, Yd, Ye, Yf, Yg, Yh, Y2, Jj, Qq, Jk, Yi, Jl, Jm, Yj, Y3, Yk, Yl, Y4, Ym, Y5, Yn, Qc, Yo, Jn, Yp, Yq, Y6, Yr, Qd, Jo, Jp, Y7, Ys, Yt, Yu, Yv, Yw, Yx, Jq, Jr, Qr, Js, Yy, Qe, Qs, List.set_cons_zero, List.set_cons_succ, List.map_cons, List.map_nil, List.replicate, List.cons_append, List.nil_append, List.length_cons, List.length_nil, Bool.false_eq_true, eq_self, if_true, if_false, Nat.zero_add, Jt, Yz, Ju, Jv, Jw, Y0, Jx, true_and, Qp]
  rw [gTp_C]
  simp only [Y1, Qf, Qt, Qu, Qa, Qg, Qv, Qw, Qx, Qy, Qh, Qz, Jy, Qi, Qb, Qj, Qk, Q0, Jz, Q1, Q2, J0, Q3, Q4, J1, Ql, Qm, Qn, Q5, Qo, Q6, Qp, Q7, Q8, J2, Q9, Ja, J3, J4, J5, Jb, J6, J7, Jc, J8, J9, Jd, Je, Ya, Jf, Yb, Jg, Jh, Y8, Yc, Ji, Yd, Ye, Yf, Yg, Yh, Y2, Jj, Qq, Jk, Yi, Jl, Jm, Yj, Y3, Yk, Yl, Y4, Ym, Y5, Yn, Qc, Yo, Jn, Yp, Yq, Y6, Yr, Qd, Jo, Jp, Y7, Ys, Yt, Yu, Yv, Yw, Yx, Jq, Jr, Qr, Js, Yy, Qe, Qs, List.set_cons_zero, List.set_cons_succ, List.map_cons, List.map_nil, List.replicate, List.cons_append, List.nil_append, List.length_cons, List.length_nil, Bool.false_eq_true, eq_self, if_true, if_false, Nat.zero_add, Jt, Yz, Ju, Jv, Jw, Y0, Jx, true_and]
  refine ⟨decide_eq_true (by rw [List.length_map]; omega), ?_⟩
  refine ok_map (fun _ => true) (fun d => match d with | .tup [_, .int m, .int _, _] => .int m | _ => .non) (fun d hd => ?_) ?_
  · obtain ⟨p, hp, rfl⟩ := List.mem_map.mp hd
    rw [gTp_P]
    simp only [Y1, Qf, Qt, Qu, Qa, Qg, Qv, Qw, Qx, Qy, Qh, Qz, Jy, Qi, Qb, Qj, Qk, Q0, Jz, Q1, Q2, J0, Q3, Q4, J1, Ql, Qm, Qn, Q5, Qo, Q6, Qp, Q7, Q8, J2, Q9, Ja, J3, J4, J5, Jb, J6, J7, Jc, J8, J9, Jd, Je, Ya, Jf, Yb, Jg, Jh, Y8, Yc, Ji, Yd, Ye, Yf, Yg, Yh, Y2, Jj, Qq, Jk, Yi, Jl, Jm, Yj, Y3, Yk, Yl, Y4, Ym, Y5, Yn, Qc, Yo, Jn, Yp, Yq, Y6, Yr, Qd, Jo, Jp, Y7, Ys, Yt, Yu, Yv, Yw, Yx, Jq, Jr, Qr, Js, Yy, Qe, Qs, List.set_cons_zero, List.set_cons_succ, List.map_cons, List.map_nil, List.replicate, List.cons_append, List.nil_append, List.length_cons, List.length_nil, Bool.false_eq_true, eq_self, if_true, if_false, Nat.zero_add, Jt, Yz, Ju, Jv, Jw, Y0, Jx, true_and, wipeZ]
    first | exact ⟨rfl, rfl, rfl⟩ | exact ⟨rfl, rfl⟩ | trivial
  rw [filter_yes]
  have e1 : (c.piles.map encP).map (fun d => match d with | .tup [_, .int m, .int _, _] => Dv.int m | _ => .non) = (c.piles.map fun p => p.many).map .int := by
    rw [List.map_map, List.map_map]; rfl
  rw [e1]
  have p6 : (10 : Int) ^ Int.toNat 6 = 1000000 := by decide
  have hs0 := sum_nonneg (f := fun p : Pil => p.many) (xs := c.piles) fun p hp => (hc.piles p hp).many0
  simp only [Y1, Qf, Qt, Qu, Qa, Qg, Qv, Qw, Qx, Qy, Qh, Qz, Jy, Qi, Qb, Qj, Qk, Q0, Jz, Q1, Q2, J0, Q3, Q4, J1, Ql, Qm, Qn, Q5, Qo, Q6, Qp, Q7, Q8, J2, Q9, Ja, J3, J4, J5, Jb, J6, J7, Jc, J8, J9, Jd, Je, Ya, Jf, Yb, Jg, Jh, Y8, Yc, Ji, Yd, Ye, Yf, Yg, Yh, Y2, Jj, Qq, Jk, Yi, Jl, Jm, Yj, Y3, Yk, Yl, Y4, Ym, Y5, Yn, Qc, Yo, Jn, Yp, Yq, Y6, Yr, Qd, Jo, Jp, Y7, Ys, Yt, Yu, Yv, Yw, Yx, Jq, Jr, Qr, Js, Yy, Qe, Qs, List.set_cons_zero, List.set_cons_succ, List.map_cons, List.map_nil, List.replicate, List.cons_append, List.nil_append, List.length_cons, List.length_nil, Bool.false_eq_true, eq_self, if_true, if_false, Nat.zero_add, Jt, Yz, Ju, Jv, Jw, Y0, Jx, true_and, sumA_ls, len_tup, add_int, pow_ok (show (0 : Int) ≤ 6 ∧ (6 : Int) ≤ 1000000 by decide) (show -(2 ^ 64) < (10 : Int) ∧ (10 : Int) < 2 ^ 64 by decide)]
  have hwh : 0 ≤ (c.piles.map fun p => p.many).sum + (((c.doubts.map encS).length : Nat) : Int) := by omega
  generalize (c.piles.map fun p => p.many).sum + (((c.doubts.map encS).length : Nat) : Int) = whole at hwh ⊢
  refine (hd f r 2 hw (by omega) (by omega) (by omega) hf).mono ?_
  rintro d s ⟨x, f1, rfl, hx0, hx1, rfl, hw1, hc1⟩
  simp only [Y1, Qf, Qt, Qu, Qa, Qg, Qv, Qw, Qx, Qy, Qh, Qz, Jy, Qi, Qb, Qj, Qk, Q0, Jz, Q1, Q2, J0, Q3, Q4, J1, Ql, Qm, Qn, Q5, Qo, Q6, Qp, Q7, Q8, J2, Q9, Ja, J3, J4, J5, Jb, J6, J7, Jc, J8, J9, Jd, Je, Ya, Jf, Yb, Jg, Jh, Y8, Yc, Ji, Yd, Ye, Yf, Yg, Yh, Y2, Jj, Qq, Jk, Yi, Jl, Jm, Yj, Y3, Yk, Yl, Y4, Ym, Y5, Yn, Qc, Yo, Jn, Yp, Yq, Y6, Yr, Qd, Jo, Jp, Y7, Ys, Yt, Yu, Yv, Yw, Yx, Jq, Jr, Qr, Js, Yy, Qe, Qs, List.set_cons_zero, List.set_cons_succ, List.map_cons, List.map_nil, List.replicate, List.cons_append, List.nil_append, List.length_cons, List.length_nil, Bool.false_eq_true, eq_self, if_true, if_false, Nat.zero_add, Jt, Yz, Ju, Jv, Jw, Y0, Jx, true_and, add_int]
  rw [div_ok (show (0 : Int) < 2 + x by omega) (Int.lt_of_le_of_lt (show 2 + x ≤ 3 by omega) (by decide))]
  have hdv := Int.ediv_nonneg hwh (show (0 : Int) ≤ 2 + x by omega)
  generalize whole / (2 + x) = part at hdv ⊢
  simp only [Y1, Qf, Qt, Qu, Qa, Qg, Qv, Qw, Qx, Qy, Qh, Qz, Jy, Qi, Qb, Qj, Qk, Q0, Jz, Q1, Q2, J0, Q3, Q4, J1, Ql, Qm, Qn, Q5, Qo, Q6, Qp, Q7, Q8, J2, Q9, Ja, J3, J4, J5, Jb, J6, J7, Jc, J8, J9, Jd, Je, Ya, Jf, Yb, Jg, Jh, Y8, Yc, Ji, Yd, Ye, Yf, Yg, Yh, Y2, Jj, Qq, Jk, Yi, Jl, Jm, Yj, Y3, Yk, Yl, Y4, Ym, Y5, Yn, Qc, Yo, Jn, Yp, Yq, Y6, Yr, Qd, Jo, Jp, Y7, Ys, Yt, Yu, Yv, Yw, Yx, Jq, Jr, Qr, Js, Yy, Qe, Qs, List.set_cons_zero, List.set_cons_succ, List.map_cons, List.map_nil, List.replicate, List.cons_append, List.nil_append, List.length_cons, List.length_nil, Bool.false_eq_true, eq_self, if_true, if_false, Nat.zero_add, Jt, Yz, Ju, Jv, Jw, Y0, Jx, true_and]
  refine (hd f1 r 3 hw1 (by omega) (by omega) (by omega) hf).mono ?_
  rintro d s ⟨x2, f2, rfl, hy0, hy1, rfl, hw2, hc2⟩
  simp only [Y1, Qf, Qt, Qu, Qa, Qg, Qv, Qw, Qx, Qy, Qh, Qz, Jy, Qi, Qb, Qj, Qk, Q0, Jz, Q1, Q2, J0, Q3, Q4, J1, Ql, Qm, Qn, Q5, Qo, Q6, Qp, Q7, Q8, J2, Q9, Ja, J3, J4, J5, Jb, J6, J7, Jc, J8, J9, Jd, Je, Ya, Jf, Yb, Jg, Jh, Y8, Yc, Ji, Yd, Ye, Yf, Yg, Yh, Y2, Jj, Qq, Jk, Yi, Jl, Jm, Yj, Y3, Yk, Yl, Y4, Ym, Y5, Yn, Qc, Yo, Jn, Yp, Yq, Y6, Yr, Qd, Jo, Jp, Y7, Ys, Yt, Yu, Yv, Yw, Yx, Jq, Jr, Qr, Js, Yy, Qe, Qs, List.set_cons_zero, List.set_cons_succ, List.map_cons, List.map_nil, List.replicate, List.cons_append, List.nil_append, List.length_cons, List.length_nil, Bool.false_eq_true, eq_self, if_true, if_false, Nat.zero_add, Jt, Yz, Ju, Jv, Jw, Y0, Jx, true_and, add_int, two_ok, p6]
  have hm : 0 ≤ (if part + x2 < 1000000 then part + x2 else (1000000 : Int)) ∧ (if part + x2 < 1000000 then part + x2 else (1000000 : Int)) ≤ 1000000 := by split <;> omega
  generalize (if part + x2 < 1000000 then part + x2 else (1000000 : Int)) = many at hm ⊢
  simp only [Y1, Qf, Qt, Qu, Qa, Qg, Qv, Qw, Qx, Qy, Qh, Qz, Jy, Qi, Qb, Qj, Qk, Q0, Jz, Q1, Q2, J0, Q3, Q4, J1, Ql, Qm, Qn, Q5, Qo, Q6, Qp, Q7, Q8, J2, Q9, Ja, J3, J4, J5, Jb, J6, J7, Jc, J8, J9, Jd, Je, Ya, Jf, Yb, Jg, Jh, Y8, Yc, Ji, Yd, Ye, Yf, Yg, Yh, Y2, Jj, Qq, Jk, Yi, Jl, Jm, Yj, Y3, Yk, Yl, Y4, Ym, Y5, Yn, Qc, Yo, Jn, Yp, Yq, Y6, Yr, Qd, Jo, Jp, Y7, Ys, Yt, Yu, Yv, Yw, Yx, Jq, Jr, Qr, Js, Yy, Qe, Qs, List.set_cons_zero, List.set_cons_succ, List.map_cons, List.map_nil, List.replicate, List.cons_append, List.nil_append, List.length_cons, List.length_nil, Bool.false_eq_true, eq_self, if_true, if_false, Nat.zero_add, Jt, Yz, Ju, Jv, Jw, Y0, Jx, true_and, len_encS]
  refine (hd f2 r c.lots.length hw2 (by omega) (by omega) (by omega) hf).mono ?_
  rintro d s ⟨y, f3, rfl, hy0, hy1, rfl, hw3, hc3⟩
  have hyn : y.toNat < c.lots.length := by omega
  have ey : ∀ s : Sto, gIx (encS c.lots) (.int y) s = .ok (.str c.lots[y.toNat]) s := fun s => ix_tup hy0 (str_get hyn)
  have ea : ∀ s : Sto, gAdd (.tup (c.piles.map encP)) (.tup [.tup [.str c.lots[y.toNat], .int many, .int 0, .tup []]]) s = .ok (.tup ((c.piles ++ [(⟨c.lots[y.toNat], many, 0, []⟩ : Pil)]).map encP)) s := fun s => by
    rw [add_tup (by rw [List.length_map]; show _ + 1 ≤ _; omega), List.map_append]; rfl
  simp only [Y1, Qf, Qt, Qu, Qa, Qg, Qv, Qw, Qx, Qy, Qh, Qz, Jy, Qi, Qb, Qj, Qk, Q0, Jz, Q1, Q2, J0, Q3, Q4, J1, Ql, Qm, Qn, Q5, Qo, Q6, Qp, Q7, Q8, J2, Q9, Ja, J3, J4, J5, Jb, J6, J7, Jc, J8, J9, Jd, Je, Ya, Jf, Yb, Jg, Jh, Y8, Yc, Ji, Yd, Ye, Yf, Yg, Yh, Y2, Jj, Qq, Jk, Yi, Jl, Jm, Yj, Y3, Yk, Yl, Y4, Ym, Y5, Yn, Qc, Yo, Jn, Yp, Yq, Y6, Yr, Qd, Jo, Jp, Y7, Ys, Yt, Yu, Yv, Yw, Yx, Jq, Jr, Qr, Js, Yy, Qe, Qs, List.set_cons_zero, List.set_cons_succ, List.map_cons, List.map_nil, List.replicate, List.cons_append, List.nil_append, List.length_cons, List.length_nil, Bool.false_eq_true, eq_self, if_true, if_false, Nat.zero_add, Jt, Yz, Ju, Jv, Jw, Y0, Jx, true_and, ey]
  repeat (refine ⟨by decide, ?_⟩)
  simp only [Y1, Qf, Qt, Qu, Qa, Qg, Qv, Qw, Qx, Qy, Qh, Qz, Jy, Qi, Qb, Qj, Qk, Q0, Jz, Q1, Q2, J0, Q3, Q4, J1, Ql, Qm, Qn, Q5, Qo, Q6, Qp, Q7, Q8, J2, Q9, Ja, J3, J4, J5, Jb, J6, J7, Jc, J8, J9, Jd, Je, Ya, Jf, Yb, Jg, Jh, Y8, Yc, Ji, Yd, Ye, Yf, Yg, Yh, Y2, Jj, Qq, Jk, Yi, Jl, Jm, Yj, Y3, Yk, Yl, Y4, Ym, Y5, Yn, Qc, Yo, Jn, Yp, Yq, Y6, Yr, Qd, Jo, Jp, Y7, Ys, Yt, Yu, Yv, Yw, Yx, Jq, Jr, Qr, Js, Yy, Qe, Qs, List.set_cons_zero, List.set_cons_succ, List.map_cons, List.map_nil, List.replicate, List.cons_append, List.nil_append, List.length_cons, List.length_nil, Bool.false_eq_true, eq_self, if_true, if_false, Nat.zero_add, Jt, Yz, Ju, Jv, Jw, Y0, Jx, true_and, ea]
  repeat (refine ⟨by decide, ?_⟩)
  have hpl : ∀ p ∈ c.piles ++ [(⟨c.lots[y.toNat], many, 0, []⟩ : Pil)], PilB c.lots p := fun p hp => by
    rcases List.mem_append.mp hp with h | h
    · exact hc.piles p h
    · rw [List.mem_singleton.mp h]
      exact ⟨List.getElem_mem _, hm.1, hm.2, Int.le_refl _, by show (0 : Int) ≤ 10000; omega, fun x hx => absurd hx List.not_mem_nil, by simp, List.nodup_nil⟩
  refine fin_feed0 (T := fun d s' => ∃ (c' : Cnt) (f' : Feed), d = encC c' ∧ CntB c' ∧ s' = feedOb f' :: r ∧ f'.Wf ∧ f.calls ≤ f'.calls ∧ f'.calls ≤ f.calls + 3) hf (below_encC 0 ⟨c.lots, c.piles ++ [(⟨c.lots[y.toNat], many, 0, []⟩ : Pil)], c.doubts⟩) ⟨⟨c.lots, c.piles ++ [(⟨c.lots[y.toNat], many, 0, []⟩ : Pil)], c.doubts⟩, f3, rfl, ⟨hc.len2, hc.len6, hc.nd, hc.pool, hpl, by rw [List.length_append]; simp only [List.length_cons, List.length_nil]; omega, hc.doubts, hc.ndoubts⟩, rfl, hw3, by omega, by omega⟩
end Z

namespace Lwk34
open PySem PySem.Spec PyProof.Rows L2 Z
def topS (i : Nat) : Stmt := PySem.Challenge.pw_countbundles_k34_firsts.main.body.getD i (.Pass ⟨0, 0, 0, 0⟩)
def bs : List Str := ["max", "len", "enumerate", "all", "int", "sum", "sorted", "dict", "tuple", "range", "list", "min", "isinstance", "zip", "bool", "str", "any", "repr"]
/-! ### least_number -/
def nm1 : List (Str × NameKind) := [("pile", .local), ("max", .globalImplicit)]
def N1 : List Str := ["pile"]
theorem sc1 : FnScope N1 ["pile"] (defScope (topS 1)) := ⟨rfl, rfl, rfl, by decide +kernel, rfl, by decide +kernel, by decide +kernel⟩
def b1 : Fn Ct :=
  fRet (fCall (gTwo fun i j => if j > i then j else i) (fCons (fC (.int 0)) (fCons (fBin gSub (fBin gIx (fVar 0) (fC (.int 1))) (fBin gIx (fVar 0) (fC (.int 2)))) (fNil))))
def φ1 : Phi := fDef 1 1 b1
theorem zb1 {G : Gz} {X : Cx} (c : Cz G bs 1 X N1 nm1 (fun _ => true)) : ZB X (defBody (topS 1)) b1 :=
  z_sone (z_ret (z_max2 c (z_cons (z_int) (z_cons (z_sub (z_ix c (z_var c (by decide +kernel)) (z_int)) (z_ix c (z_var c (by decide +kernel)) (z_int))) (z_nil)))))
/-! ### pile_names -/
def nm2 : List (Str × NameKind) := [("pile", .local)]
def N2 : List Str := ["pile"]
theorem sc2 : FnScope N2 ["pile"] (defScope (topS 2)) := ⟨rfl, rfl, rfl, by decide +kernel, rfl, by decide +kernel, by decide +kernel⟩
def b2 : Fn Ct :=
  fRet (fBin gAdd (fTup (fCons (fBin gIx (fVar 0) (fC (.int 0))) (fNil))) (fBin gIx (fVar 0) (fC (.int 3))))
def φ2 : Phi := fDef 1 1 b2
theorem zb2 {G : Gz} {X : Cx} (c : Cz G bs 2 X N2 nm2 (fun _ => true)) : ZB X (defBody (topS 2)) b2 :=
  z_sone (z_ret (z_add (z_tup (z_cons (z_ix c (z_var c (by decide +kernel)) (z_int)) (z_nil))) (z_ix c (z_var c (by decide +kernel)) (z_int))))
/-! ### names_at -/
def nm4 : List (Str × NameKind) := [("count", .local), ("placed", .local), ("pile", .local), ("pile_names", .globalImplicit)]
def N4 : List Str := ["count", "placed", "pile"]
theorem sc4 : FnScope N4 ["count", "placed", "pile"] (defScope (topS 4)) := ⟨rfl, rfl, rfl, by decide +kernel, rfl, by decide +kernel, by decide +kernel⟩
def b4 : Fn Ct :=
  fRet (fIf (fTest (fBin gInK (fVar 2) (fVar 1))) (fTup (fCons (fBin gIx (fVar 1) (fVar 2)) (fNil))) (fCall φ2 (fCons (fBin gIx (fBin gIx (fVar 0) (fC (.int 1))) (fVar 2)) (fNil))))
def φ4 : Phi := fDef 3 3 b4
theorem zb4 {G : Gz} {X : Cx} (F2 : Fz G 4 "pile_names" 1 φ2) (c : Cz G bs 4 X N4 nm4 (fun _ => true)) : ZB X (defBody (topS 4)) b4 :=
  z_sone (z_ret (z_if (z_inKT c (z_var c (by decide +kernel)) (z_var c (by decide +kernel))) (z_tup (z_cons (z_ix c (z_var c (by decide +kernel)) (z_var c (by decide +kernel))) (z_nil))) (z_call c F2 (z_cons (z_ix c (z_ix c (z_var c (by decide +kernel)) (z_int)) (z_var c (by decide +kernel))) (z_nil)))))
/-! ### greatest_for -/
def nm5 : List (Str × NameKind) := [("count", .local), ("name", .cell), ("placed", .local), ("found", .local), ("k", .local), ("pile", .local), ("len", .globalImplicit), ("enumerate", .globalImplicit), ("names_at", .globalImplicit)]
def N5 : List Str := ["count", "name", "placed", "found", "k", "pile", "names"]
theorem sc5 : FnScope N5 ["count", "name", "placed"] (defScope (topS 5)) := ⟨rfl, rfl, rfl, by decide +kernel, rfl, by decide +kernel, by decide +kernel⟩
def b5 : Fn Ct :=
  fSeq (fSet 3 (fCall gLen (fCons (fVal (fLc (fSrc (fBin gIx (fVar 0) (fC (.int 2)))) [6] (gNm 6) (fTest (fBin gIn (fVar 1) (fVar 6))) (fC (.int 1)))) (fNil))))
  (fSeq (fFor (fEnum (fCons (fBin gIx (fVar 0) (fC (.int 1))) (fNil))) (gTp 2 (gsCons (gNm 4) (gsCons (gNm 5) (gsNil)))) (fIfS (fTest (fBin gIn (fVar 1) (fCall φ4 (fCons (fVar 0) (fCons (fVar 2) (fCons (fVar 4) (fNil))))))) (fSet 3 (fBin gAdd (fBin gAdd (fVar 3) (fBin gIx (fVar 5) (fC (.int 1)))) (fBin gIx (fVar 5) (fC (.int 2))))) (fNop)))
  (fRet (fVar 3)))
def φ5 : Phi := fDef 3 7 b5
theorem zb5 {G : Gz} {X : Cx} (F4 : Fz G 5 "names_at" 3 φ4) (c : Cz G bs 5 X N5 nm5 (fun _ => true)) : ZB X (defBody (topS 5)) b5 :=
  z_cons2 (z_set c (by decide +kernel) (z_len c (z_cons (z_val (z_lc (q := false) c [("names", 6)] (zi_seq (z_ix c (z_var c (by decide +kernel)) (z_int))) (fun Xc1 c1 => ⟨zg_name c1 (by decide +kernel), zts_one (z_inT c1 (z_var c1 (by decide +kernel)) (z_var c1 (by decide +kernel))), z_int⟩))) (z_nil))) (hs := c.sW.trans rfl))
  (z_cons2 (z_for (q := true) c (zi_enum c (z_cons (z_ix c (z_var c (by decide +kernel)) (z_int)) (z_nil))) (zg_tup c (zgs_cons (zg_name c (by decide +kernel)) (zgs_cons (zg_name c (by decide +kernel)) (zgs_nil)))) (z_sone (z_ifS (z_inT c (z_var c (by decide +kernel)) (z_call c F4 (z_cons (z_var c (by decide +kernel)) (z_cons (z_var c (by decide +kernel)) (z_cons (z_var c (by decide +kernel)) (z_nil)))))) (z_sone (z_set c (by decide +kernel) (z_add (z_add (z_var c (by decide +kernel)) (z_ix c (z_var c (by decide +kernel)) (z_int))) (z_ix c (z_var c (by decide +kernel)) (z_int))) (hs := c.sW.trans rfl))) (z_snil))))
  (z_sone (z_ret (z_var c (by decide +kernel)))))
/-! ### is_among -/
def nm6 : List (Str × NameKind) := [("some", .local), ("names", .cell), ("all", .globalImplicit)]
def N6 : List Str := ["some", "names", "one"]
theorem sc6 : FnScope N6 ["some", "names"] (defScope (topS 6)) := ⟨rfl, rfl, rfl, by decide +kernel, rfl, by decide +kernel, by decide +kernel⟩
def b6 : Fn Ct :=
  fRet (fCall gAll (fCons (fVal (fLc (fSrc (fVar 0)) [2] (gNm 2) (fYes) (fBin gIn (fVar 2) (fVar 1)))) (fNil)))
def φ6 : Phi := fDef 2 3 b6
theorem zb6 {G : Gz} {X : Cx} (c : Cz G bs 6 X N6 nm6 (fun _ => true)) : ZB X (defBody (topS 6)) b6 :=
  z_sone (z_ret (z_all c (z_cons (z_val (z_lc (q := false) c [("one", 2)] (zi_seq (z_var c (by decide +kernel))) (fun Xc1 c1 => ⟨zg_name c1 (by decide +kernel), zts_nil, z_in c1 (z_var c1 (by decide +kernel)) (z_var c1 (by decide +kernel))⟩))) (z_nil))))
/-! ### had_by -/
def nm7 : List (Str × NameKind) := [("count", .local), ("names", .cell), ("placed", .local), ("found", .local), ("k", .local), ("pile", .local), ("len", .globalImplicit), ("enumerate", .globalImplicit), ("is_among", .globalImplicit), ("names_at", .globalImplicit), ("least_number", .globalImplicit)]
def N7 : List Str := ["count", "names", "placed", "found", "k", "pile", "some"]
theorem sc7 : FnScope N7 ["count", "names", "placed"] (defScope (topS 7)) := ⟨rfl, rfl, rfl, by decide +kernel, rfl, by decide +kernel, by decide +kernel⟩
def b7 : Fn Ct :=
  fSeq (fSet 3 (fCall gLen (fCons (fVal (fLc (fSrc (fBin gIx (fVar 0) (fC (.int 2)))) [6] (gNm 6) (fTest (fCall φ6 (fCons (fVar 6) (fCons (fVar 1) (fNil))))) (fC (.int 1)))) (fNil))))
  (fSeq (fFor (fEnum (fCons (fBin gIx (fVar 0) (fC (.int 1))) (fNil))) (gTp 2 (gsCons (gNm 4) (gsCons (gNm 5) (gsNil)))) (fIfS (fTest (fCall φ6 (fCons (fCall φ4 (fCons (fVar 0) (fCons (fVar 2) (fCons (fVar 4) (fNil))))) (fCons (fVar 1) (fNil))))) (fSet 3 (fBin gAdd (fVar 3) (fCall φ1 (fCons (fVar 5) (fNil))))) (fNop)))
  (fRet (fVar 3)))
def φ7 : Phi := fDef 3 7 b7
theorem zb7 {G : Gz} {X : Cx} (F6 : Fz G 7 "is_among" 2 φ6) (F4 : Fz G 7 "names_at" 3 φ4) (F1 : Fz G 7 "least_number" 1 φ1) (c : Cz G bs 7 X N7 nm7 (fun _ => true)) : ZB X (defBody (topS 7)) b7 :=
  z_cons2 (z_set c (by decide +kernel) (z_len c (z_cons (z_val (z_lc (q := false) c [("some", 6)] (zi_seq (z_ix c (z_var c (by decide +kernel)) (z_int))) (fun Xc1 c1 => ⟨zg_name c1 (by decide +kernel), zts_one (z_valT (z_call c1 F6 (z_cons (z_var c1 (by decide +kernel)) (z_cons (z_var c1 (by decide +kernel)) (z_nil))))), z_int⟩))) (z_nil))) (hs := c.sW.trans rfl))
  (z_cons2 (z_for (q := true) c (zi_enum c (z_cons (z_ix c (z_var c (by decide +kernel)) (z_int)) (z_nil))) (zg_tup c (zgs_cons (zg_name c (by decide +kernel)) (zgs_cons (zg_name c (by decide +kernel)) (zgs_nil)))) (z_sone (z_ifS (z_valT (z_call c F6 (z_cons (z_call c F4 (z_cons (z_var c (by decide +kernel)) (z_cons (z_var c (by decide +kernel)) (z_cons (z_var c (by decide +kernel)) (z_nil))))) (z_cons (z_var c (by decide +kernel)) (z_nil))))) (z_sone (z_set c (by decide +kernel) (z_add (z_var c (by decide +kernel)) (z_call c F1 (z_cons (z_var c (by decide +kernel)) (z_nil)))) (hs := c.sW.trans rfl))) (z_snil))))
  (z_sone (z_ret (z_var c (by decide +kernel)))))
/-! ### room_of -/
def nm8 : List (Str × NameKind) := [("count", .local), ("name", .local), ("greatest", .local), ("other", .local), ("int", .globalImplicit)]
def N8 : List Str := ["count", "name", "greatest", "other"]
theorem sc8 : FnScope N8 ["count", "name", "greatest", "other"] (defScope (topS 8)) := ⟨rfl, rfl, rfl, by decide +kernel, rfl, by decide +kernel, by decide +kernel⟩
def b8 : Fn Ct :=
  fRet (fBin gSub (fVar 2) (fCall gToInt (fCons (fBin gLt (fIndex (fBin gIx (fVar 0) (fC (.int 0))) (fCons (fVar 3) (fNil))) (fIndex (fBin gIx (fVar 0) (fC (.int 0))) (fCons (fVar 1) (fNil)))) (fNil))))
def φ8 : Phi := fDef 4 4 b8
theorem zb8 {G : Gz} {X : Cx} (c : Cz G bs 8 X N8 nm8 (fun _ => true)) : ZB X (defBody (topS 8)) b8 :=
  z_sone (z_ret (z_sub (z_var c (by decide +kernel)) (z_toint c (z_cons (z_lt c (z_index (z_ix c (z_var c (by decide +kernel)) (z_int)) (z_cons (z_var c (by decide +kernel)) (z_nil))) (z_index (z_ix c (z_var c (by decide +kernel)) (z_int)) (z_cons (z_var c (by decide +kernel)) (z_nil)))) (z_nil)))))
/-! ### is_barred -/
def nm9 : List (Str × NameKind) := [("count", .cell), ("name", .cell), ("names", .local), ("placed", .local), ("greatest", .cell), ("may", .local), ("greatest_for", .globalImplicit), ("sum", .globalImplicit), ("had_by", .globalImplicit)]
def N9 : List Str := ["count", "name", "names", "placed", "greatest", "may", "other"]
theorem sc9 : FnScope N9 ["count", "name", "names", "placed"] (defScope (topS 9)) := ⟨rfl, rfl, rfl, by decide +kernel, rfl, by decide +kernel, by decide +kernel⟩
def b9 : Fn Ct :=
  fSeq (fSet 4 (fCall φ5 (fCons (fVar 0) (fCons (fVar 1) (fCons (fVar 3) (fNil))))))
  (fSeq (fSet 5 (fCall gSum (fCons (fVal (fLc (fSrc (fVar 2)) [6] (gNm 6) (fYes) (fCall φ8 (fCons (fVar 0) (fCons (fVar 1) (fCons (fVar 4) (fCons (fVar 6) (fNil)))))))) (fNil))))
  (fRet (fBin gGt (fCall φ7 (fCons (fVar 0) (fCons (fVar 2) (fCons (fVar 3) (fNil))))) (fVar 5))))
def φ9 : Phi := fDef 4 7 b9
theorem zb9 {G : Gz} {X : Cx} (F5 : Fz G 9 "greatest_for" 3 φ5) (F8 : Fz G 9 "room_of" 4 φ8) (F7 : Fz G 9 "had_by" 3 φ7) (c : Cz G bs 9 X N9 nm9 (fun _ => true)) : ZB X (defBody (topS 9)) b9 :=
  z_cons2 (z_set c (by decide +kernel) (z_call c F5 (z_cons (z_var c (by decide +kernel)) (z_cons (z_var c (by decide +kernel)) (z_cons (z_var c (by decide +kernel)) (z_nil))))) (hs := c.sW.trans rfl))
  (z_cons2 (z_set c (by decide +kernel) (z_sum c (z_cons (z_val (z_lc (q := false) c [("other", 6)] (zi_seq (z_var c (by decide +kernel))) (fun Xc1 c1 => ⟨zg_name c1 (by decide +kernel), zts_nil, z_call c1 F8 (z_cons (z_var c1 (by decide +kernel)) (z_cons (z_var c1 (by decide +kernel)) (z_cons (z_var c1 (by decide +kernel)) (z_cons (z_var c1 (by decide +kernel)) (z_nil)))))⟩))) (z_nil))) (hs := c.sW.trans rfl))
  (z_sone (z_ret (z_gt c (z_call c F7 (z_cons (z_var c (by decide +kernel)) (z_cons (z_var c (by decide +kernel)) (z_cons (z_var c (by decide +kernel)) (z_nil))))) (z_var c (by decide +kernel))))))
/-! ### rising_rows -/
def nm11 : List (Str × NameKind) := [("names", .local), ("found", .local), ("name", .cell), ("sorted", .globalImplicit)]
def N11 : List Str := ["names", "found", "name", "row"]
theorem sc11 : FnScope N11 ["names"] (defScope (topS 11)) := ⟨rfl, rfl, rfl, by decide +kernel, rfl, by decide +kernel, by decide +kernel⟩
def b11 : Fn Ct :=
  fSeq (fSet 1 (fVal (fLst (fCons (fTup (fNil)) (fNil)))))
  (fSeq (fFor (fSrc (fVal (fCallL gSorted (fCons (fVar 0) (fNil))))) (gNm 2) (fSet 1 (fVal (fCatL (fVar 1) (fVal (fLc (fSrc (fVar 1)) [3] (gNm 3) (fYes) (fBin gAdd (fVar 3) (fTup (fCons (fVar 2) (fNil))))))))))
  (fRet (fSl (fVar 1) (fPart (fC (.int 1))) (fNoPart))))
def φ11 : Phi := fDef 1 4 b11
theorem zb11 {G : Gz} {X : Cx} (c : Cz G bs 11 X N11 nm11 (fun _ => true)) : ZB X (defBody (topS 11)) b11 :=
  z_cons2 (z_set c (by decide +kernel) (z_val (z_lst (z_cons (z_tup (z_nil)) (z_nil)))) (hs := c.sW.trans rfl))
  (z_cons2 (z_for (q := false) c (zi_seq (z_val (z_sorted c (z_cons (z_var c (by decide +kernel)) (z_nil))))) (zg_name c (by decide +kernel)) (z_sone (z_set c (by decide +kernel) (z_val (z_catL (z_var c (by decide +kernel)) (z_val (z_lc (q := false) c [("row", 3)] (zi_seq (z_var c (by decide +kernel))) (fun Xc1 c1 => ⟨zg_name c1 (by decide +kernel), zts_nil, z_add (z_var c1 (by decide +kernel)) (z_tup (z_cons (z_var c1 (by decide +kernel)) (z_nil)))⟩))))) (hs := c.sW.trans rfl))))
  (z_sone (z_ret (z_slice (z_var c (by decide +kernel)) (zo_some (z_int)) (zo_none)))))
/-! ### bar_at -/
def nm12 : List (Str × NameKind) := [("count", .local), ("name", .cell), ("placed", .local), ("names", .local), ("rising_rows", .globalImplicit), ("is_barred", .globalImplicit)]
def N12 : List Str := ["count", "name", "placed", "names", "other"]
theorem sc12 : FnScope N12 ["count", "name", "placed"] (defScope (topS 12)) := ⟨rfl, rfl, rfl, by decide +kernel, rfl, by decide +kernel, by decide +kernel⟩
def b12 : Fn Ct :=
  fSeq (fFor (fSrc (fCall φ11 (fCons (fVal (fLc (fSrc (fBin gIx (fVar 0) (fC (.int 0)))) [4] (gNm 4) (fTest (fBin gNe (fVar 4) (fVar 1))) (fVar 4))) (fNil)))) (gNm 3) (fIfS (fTest (fCall φ9 (fCons (fVar 0) (fCons (fVar 1) (fCons (fVar 3) (fCons (fVar 2) (fNil))))))) (fRet (fVar 3)) (fNop)))
  (fRet (fC .non))
def φ12 : Phi := fDef 3 5 b12
theorem zb12 {G : Gz} {X : Cx} (F11 : Fz G 12 "rising_rows" 1 φ11) (F9 : Fz G 12 "is_barred" 4 φ9) (c : Cz G bs 12 X N12 nm12 (fun _ => true)) : ZB X (defBody (topS 12)) b12 :=
  z_cons2 (z_for (q := false) c (zi_seq (z_call c F11 (z_cons (z_val (z_lc (q := false) c [("other", 4)] (zi_seq (z_ix c (z_var c (by decide +kernel)) (z_int))) (fun Xc1 c1 => ⟨zg_name c1 (by decide +kernel), zts_one (z_neT c1 (z_var c1 (by decide +kernel)) (z_var c1 (by decide +kernel))), z_var c1 (by decide +kernel)⟩))) (z_nil)))) (zg_name c (by decide +kernel)) (z_sone (z_ifS (z_valT (z_call c F9 (z_cons (z_var c (by decide +kernel)) (z_cons (z_var c (by decide +kernel)) (z_cons (z_var c (by decide +kernel)) (z_cons (z_var c (by decide +kernel)) (z_nil))))))) (z_sone (z_ret (z_var c (by decide +kernel)))) (z_snil))))
  (z_sone (z_ret (z_non)))
/-! ### seat_doubt -/
def nm13 : List (Str × NameKind) := [("count", .local), ("doubt", .local), ("free", .local), ("given", .cell), ("tried", .local), ("name", .cell), ("other", .local), ("held", .local), ("len", .globalImplicit), ("seat_doubt", .globalImplicit)]
def N13 : List Str := ["count", "doubt", "free", "given", "tried", "name", "other", "held"]
theorem sc13 : FnScope N13 ["count", "doubt", "free", "given", "tried"] (defScope (topS 13)) := ⟨rfl, rfl, rfl, by decide +kernel, rfl, by decide +kernel, by decide +kernel⟩
def b13 (ψ : Phi) : Fn Ct :=
  fSeq (fFor (fSrc (fBin gIx (fBin gIx (fVar 0) (fC (.int 2))) (fVar 1))) (gNm 5) (fIfS (fTest (fBin gNotInK (fVar 5) (fVar 4))) (fSeq (fPut (fVar 4) (fVar 5) (fC (.bl true)))
  (fSeq (fSet 7 (fVal (fDKe 3 6 5)))
  (fSeq (fIfS (fTest (fBin gLt (fCall gLen (fCons (fVar 7) (fNil))) (fBin gIx (fVar 2) (fVar 5)))) (fSeq (fPut (fVar 3) (fVar 1) (fVar 5))
  (fRet (fC (.bl true)))) (fNop))
  (fFor (fSrc (fVar 7)) (gNm 6) (fIfS (fTest (fCall ψ (fCons (fVar 0) (fCons (fVar 6) (fCons (fVar 2) (fCons (fVar 3) (fCons (fVar 4) (fNil)))))))) (fSeq (fPut (fVar 3) (fVar 1) (fVar 5))
  (fRet (fC (.bl true)))) (fNop)))))) (fNop)))
  (fRet (fC (.bl false)))
def φ13 : Phi := recZ 5 8 b13 8
theorem zb13 {G : Gz} {X : Cx} {κ : Nat} {ψ : Phi} (Fr : Fz G κ "seat_doubt" 5 ψ) (c : Cz G bs κ X N13 nm13 (fun _ => true)) : ZB X (defBody (topS 13)) (b13 ψ) :=
  z_cons2 (z_for (q := false) c (zi_seq (z_ix c (z_ix c (z_var c (by decide +kernel)) (z_int)) (z_var c (by decide +kernel)))) (zg_name c (by decide +kernel)) (z_sone (z_ifS (z_notinKT c (z_var c (by decide +kernel)) (z_var c (by decide +kernel))) (z_cons2 (z_put c (z_var c (by decide +kernel)) (z_var c (by decide +kernel)) (z_bl))
  (z_cons2 (z_setDke c (jd := 3) (jn := 6) (jb := 5))
  (z_cons2 (z_ifS (z_ltT c (z_len c (z_cons (z_var c (by decide +kernel)) (z_nil))) (z_ix c (z_var c (by decide +kernel)) (z_var c (by decide +kernel)))) (z_cons2 (z_put c (z_var c (by decide +kernel)) (z_var c (by decide +kernel)) (z_var c (by decide +kernel)))
  (z_sone (z_ret (z_bl)))) (z_snil))
  (z_sone (z_for (q := false) c (zi_seq (z_var c (by decide +kernel))) (zg_name c (by decide +kernel)) (z_sone (z_ifS (z_valT (z_call c Fr (z_cons (z_var c (by decide +kernel)) (z_cons (z_var c (by decide +kernel)) (z_cons (z_var c (by decide +kernel)) (z_cons (z_var c (by decide +kernel)) (z_cons (z_var c (by decide +kernel)) (z_nil)))))))) (z_cons2 (z_put c (z_var c (by decide +kernel)) (z_var c (by decide +kernel)) (z_var c (by decide +kernel)))
  (z_sone (z_ret (z_bl)))) (z_snil)))))))) (z_snil))))
  (z_sone (z_ret (z_bl)))
/-! ### end_of -/
def nm14 : List (Str × NameKind) := [("count", .cell), ("name", .cell), ("placed", .local), ("greatest", .cell), ("laid", .local), ("free", .local), ("k", .local), ("pile", .local), ("own", .local), ("number", .local), ("given", .cell), ("doubt", .local), ("names", .local), ("greatest_for", .globalImplicit), ("dict", .globalImplicit), ("enumerate", .globalImplicit), ("least_number", .globalImplicit), ("seat_doubt", .globalImplicit), ("tuple", .globalImplicit), ("range", .globalImplicit), ("len", .globalImplicit)]
def N14 : List Str := ["count", "name", "placed", "greatest", "laid", "free", "k", "pile", "own", "number", "given", "doubt", "names", "other"]
theorem sc14 : FnScope N14 ["count", "name", "placed"] (defScope (topS 14)) := ⟨rfl, rfl, rfl, by decide +kernel, rfl, by decide +kernel, by decide +kernel⟩
def b14 : Fn Ct :=
  fSeq (fSet 3 (fCall φ5 (fCons (fVar 0) (fCons (fVar 1) (fCons (fVar 2) (fNil))))))
  (fSeq (fSet 4 (fNew (fLst (fNil))))
  (fSeq (fSet 5 (fCall gDictP (fCons (fVal (fLc (fSrc (fBin gIx (fVar 0) (fC (.int 0)))) [13] (gNm 13) (fYes) (fTup (fCons (fVar 13) (fCons (fCall φ8 (fCons (fVar 0) (fCons (fVar 1) (fCons (fVar 3) (fCons (fVar 13) (fNil)))))) (fNil)))))) (fNil))))
  (fSeq (fFor (fEnum (fCons (fBin gIx (fVar 0) (fC (.int 1))) (fNil))) (gTp 2 (gsCons (gNm 6) (gsCons (gNm 7) (gsNil)))) (fSeq (fSet 8 (fGet2 (fVar 2) (fVar 6) (fBin gIx (fVar 7) (fC (.int 0)))))
  (fSeq (fSet 9 (fIf (fTest (fBin gEq (fVar 8) (fVar 1))) (fBin gAdd (fBin gIx (fVar 7) (fC (.int 1))) (fBin gIx (fVar 7) (fC (.int 2)))) (fCall φ1 (fCons (fVar 7) (fNil)))))
  (fSeq (fPut (fVar 5) (fVar 8) (fBin gSub (fBin gIx (fVar 5) (fVar 8)) (fVar 9)))
  (fDrop (fMt isL gAppend (fVar 4) (fCons (fTup (fCons (fVar 8) (fCons (fVar 9) (fNil)))) (fNil))))))))
  (fSeq (fSet 10 (fDict0))
  (fSeq (fFor (fEnum (fCons (fBin gIx (fVar 0) (fC (.int 2))) (fNil))) (gTp 2 (gsCons (gNm 11) (gsCons (gNm 12) (gsNil)))) (fIfS (fTest (fBin gNotIn (fVar 1) (fVar 12))) (fDrop (fCall φ13 (fCons (fVar 0) (fCons (fVar 11) (fCons (fVar 5) (fCons (fVar 10) (fCons (fDict0) (fNil)))))))) (fNop)))
  (fRet (fTup (fCons (fCall gTuple (fCons (fVar 4) (fNil))) (fCons (fCall gTuple (fCons (fVal (fLc (fRng1 (fCons (fCall gLen (fCons (fBin gIx (fVar 0) (fC (.int 2))) (fNil))) (fNil))) [11] (gNm 11) (fYes) (fGet2 (fVar 10) (fVar 11) (fVar 1)))) (fNil))) (fNil))))))))))
def φ14 : Phi := fDef 3 14 b14
theorem zb14 {G : Gz} {X : Cx} (F5 : Fz G 21 "greatest_for" 3 φ5) (F8 : Fz G 21 "room_of" 4 φ8) (F1 : Fz G 21 "least_number" 1 φ1) (F13 : Fz G 21 "seat_doubt" 5 φ13) (c : Cz G bs 21 X N14 nm14 (fun _ => true)) : ZB X (defBody (topS 14)) b14 :=
  z_cons2 (z_set c (by decide +kernel) (z_call c F5 (z_cons (z_var c (by decide +kernel)) (z_cons (z_var c (by decide +kernel)) (z_cons (z_var c (by decide +kernel)) (z_nil))))) (hs := c.sW.trans rfl))
  (z_cons2 (z_set c (by decide +kernel) (z_new (z_lst (z_nil))) (hs := c.sW.trans rfl))
  (z_cons2 (z_set c (by decide +kernel) (z_dictP c (z_cons (z_val (z_lc (q := false) c [("other", 13)] (zi_seq (z_ix c (z_var c (by decide +kernel)) (z_int))) (fun Xc1 c1 => ⟨zg_name c1 (by decide +kernel), zts_nil, z_tup (z_cons (z_var c1 (by decide +kernel)) (z_cons (z_call c1 F8 (z_cons (z_var c1 (by decide +kernel)) (z_cons (z_var c1 (by decide +kernel)) (z_cons (z_var c1 (by decide +kernel)) (z_cons (z_var c1 (by decide +kernel)) (z_nil)))))) (z_nil)))⟩))) (z_nil))) (hs := c.sW.trans rfl))
  (z_cons2 (z_for (q := true) c (zi_enum c (z_cons (z_ix c (z_var c (by decide +kernel)) (z_int)) (z_nil))) (zg_tup c (zgs_cons (zg_name c (by decide +kernel)) (zgs_cons (zg_name c (by decide +kernel)) (zgs_nil)))) (z_cons2 (z_set c (by decide +kernel) (z_get2 c (z_var c (by decide +kernel)) (z_var c (by decide +kernel)) (z_ix c (z_var c (by decide +kernel)) (z_int))) (hs := c.sW.trans rfl))
  (z_cons2 (z_set c (by decide +kernel) (z_if (z_eqT c (z_var c (by decide +kernel)) (z_var c (by decide +kernel))) (z_add (z_ix c (z_var c (by decide +kernel)) (z_int)) (z_ix c (z_var c (by decide +kernel)) (z_int))) (z_call c F1 (z_cons (z_var c (by decide +kernel)) (z_nil)))) (hs := c.sW.trans rfl))
  (z_cons2 (z_put c (z_var c (by decide +kernel)) (z_var c (by decide +kernel)) (z_sub (z_ix c (z_var c (by decide +kernel)) (z_var c (by decide +kernel))) (z_var c (by decide +kernel))))
  (z_sone (z_expr (z_append (z_var c (by decide +kernel)) (z_cons (z_tup (z_cons (z_var c (by decide +kernel)) (z_cons (z_var c (by decide +kernel)) (z_nil)))) (z_nil))) (hs := c.sW.trans rfl)))))))
  (z_cons2 (z_set c (by decide +kernel) (z_dict0) (hs := c.sW.trans rfl))
  (z_cons2 (z_for (q := true) c (zi_enum c (z_cons (z_ix c (z_var c (by decide +kernel)) (z_int)) (z_nil))) (zg_tup c (zgs_cons (zg_name c (by decide +kernel)) (zgs_cons (zg_name c (by decide +kernel)) (zgs_nil)))) (z_sone (z_ifS (z_notinT c (z_var c (by decide +kernel)) (z_var c (by decide +kernel))) (z_sone (z_expr (z_call c F13 (z_cons (z_var c (by decide +kernel)) (z_cons (z_var c (by decide +kernel)) (z_cons (z_var c (by decide +kernel)) (z_cons (z_var c (by decide +kernel)) (z_cons (z_dict0) (z_nil))))))) (hs := c.sW.trans rfl))) (z_snil))))
  (z_sone (z_ret (z_tup (z_cons (z_tuple c (z_cons (z_var c (by decide +kernel)) (z_nil))) (z_cons (z_tuple c (z_cons (z_val (z_lc (q := false) c [("doubt", 11)] (zi_rng1 c (z_cons (z_len c (z_cons (z_ix c (z_var c (by decide +kernel)) (z_int)) (z_nil))) (z_nil))) (fun Xc1 c1 => ⟨zg_name c1 (by decide +kernel), zts_nil, z_get2 c1 (z_var c1 (by decide +kernel)) (z_var c1 (by decide +kernel)) (z_var c1 (by decide +kernel))⟩))) (z_nil))) (z_nil)))))))))))
/-! ### searched -/
def nm15 : List (Str × NameKind) := [("count", .local), ("name", .local), ("placed", .cell), ("names", .local), ("left", .local), ("parts", .local), ("own", .local), ("lower", .local), ("word", .local), ("found", .local), ("bar_at", .globalImplicit), ("enumerate", .globalImplicit), ("end_of", .globalImplicit), ("dict", .globalImplicit), ("searched", .globalImplicit), ("tuple", .globalImplicit)]
def N15 : List Str := ["count", "name", "placed", "names", "left", "parts", "own", "lower", "word", "found", "k", "pile"]
theorem sc15 : FnScope N15 ["count", "name", "placed"] (defScope (topS 15)) := ⟨rfl, rfl, rfl, by decide +kernel, rfl, by decide +kernel, by decide +kernel⟩
def b15 (ψ : Phi) : Fn Ct :=
  fSeq (fSet 3 (fCall φ12 (fCons (fVar 0) (fCons (fVar 1) (fCons (fVar 2) (fNil))))))
  (fSeq (fIfS (fTest (fBin gIsNot (fVar 3) (fC .non))) (fRet (fTup (fCons (fC (.str (Str.ofString "cases"))) (fCons (fTup (fCons (fC (.str (Str.ofString "bar"))) (fCons (fVar 3) (fNil)))) (fNil))))) (fNop))
  (fSeq (fSet 4 (fVal (fLc (fEnum (fCons (fBin gIx (fVar 0) (fC (.int 1))) (fNil))) [10, 11] (gTp 2 (gsCons (gNm 10) (gsCons (gNm 11) (gsNil)))) (fAndT (fTest (fBin gNe (fBin gIx (fVar 11) (fC (.int 3))) (fTup (fNil)))) (fTest (fBin gNotInK (fVar 10) (fVar 2)))) (fVar 10))))
  (fSeq (fIfS (fTest (fBin gEq (fVar 4) (fVal (fLst (fNil))))) (fRet (fTup (fCons (fC (.str (Str.ofString "end"))) (fCons (fCall φ14 (fCons (fVar 0) (fCons (fVar 1) (fCons (fVar 2) (fNil))))) (fNil))))) (fNop))
  (fSeq (fSet 5 (fNew (fLst (fNil))))
  (fSeq (fFor (fSrc (fBin gAdd (fTup (fCons (fBin gIx (fBin gIx (fBin gIx (fVar 0) (fC (.int 1))) (fBin gIx (fVar 4) (fC (.int 0)))) (fC (.int 0))) (fNil))) (fBin gIx (fBin gIx (fBin gIx (fVar 0) (fC (.int 1))) (fBin gIx (fVar 4) (fC (.int 0)))) (fC (.int 3))))) (gNm 6) (fSeq (fSet 7 (fCall gDictC (fCons (fVar 2) (fNil))))
  (fSeq (fPut (fVar 7) (fBin gIx (fVar 4) (fC (.int 0))) (fVar 6))
  (fSeq (fAsg (fCall ψ (fCons (fVar 0) (fCons (fVar 1) (fCons (fVar 7) (fNil))))) (gTp 2 (gsCons (gNm 8) (gsCons (gNm 9) (gsNil)))))
  (fSeq (fIfS (fTest (fBin gEq (fVar 8) (fC (.str (Str.ofString "end"))))) (fRet (fTup (fCons (fVar 8) (fCons (fVar 9) (fNil))))) (fNop))
  (fDrop (fMt isL gAppend (fVar 5) (fCons (fVar 9) (fNil)))))))))
  (fRet (fTup (fCons (fC (.str (Str.ofString "cases"))) (fCons (fTup (fCons (fC (.str (Str.ofString "under"))) (fCons (fBin gIx (fVar 4) (fC (.int 0))) (fCons (fCall gTuple (fCons (fVar 5) (fNil))) (fNil))))) (fNil))))))))))
def φ15 : Phi := recZ 3 12 b15 12
theorem zb15 {G : Gz} {X : Cx} {κ : Nat} {ψ : Phi} (F12 : Fz G κ "bar_at" 3 φ12) (F14 : Fz G κ "end_of" 3 φ14) (Fr : Fz G κ "searched" 3 ψ) (c : Cz G bs κ X N15 nm15 (fun _ => true)) : ZB X (defBody (topS 15)) (b15 ψ) :=
  z_cons2 (z_set c (by decide +kernel) (z_call c F12 (z_cons (z_var c (by decide +kernel)) (z_cons (z_var c (by decide +kernel)) (z_cons (z_var c (by decide +kernel)) (z_nil))))) (hs := c.sW.trans rfl))
  (z_cons2 (z_ifS (z_isnotT c (z_var c (by decide +kernel)) (z_non)) (z_sone (z_ret (z_tup (z_cons (z_str) (z_cons (z_tup (z_cons (z_str) (z_cons (z_var c (by decide +kernel)) (z_nil)))) (z_nil)))))) (z_snil))
  (z_cons2 (z_setLc (q := true) c [("k", 10), ("pile", 11)] (zi_enum c (z_cons (z_ix c (z_var c (by decide +kernel)) (z_int)) (z_nil))) (fun Xc1 c1 => ⟨zg_tup c1 (zgs_cons (zg_name c1 (by decide +kernel)) (zgs_cons (zg_name c1 (by decide +kernel)) (zgs_nil))), zts_one (z_wT (w_and (z_neT c1 (z_ix c1 (z_var c1 (by decide +kernel)) (z_int)) (z_tup (z_nil))) (w_and1 (z_notinKT c1 (z_var c1 (by decide +kernel)) (z_var c1 (by decide +kernel)))))), z_var c1 (by decide +kernel)⟩))
  (z_cons2 (z_ifS (z_eqT c (z_var c (by decide +kernel)) (z_val (z_lst (z_nil)))) (z_sone (z_ret (z_tup (z_cons (z_str) (z_cons (z_call c F14 (z_cons (z_var c (by decide +kernel)) (z_cons (z_var c (by decide +kernel)) (z_cons (z_var c (by decide +kernel)) (z_nil))))) (z_nil)))))) (z_snil))
  (z_cons2 (z_set c (by decide +kernel) (z_new (z_lst (z_nil))) (hs := c.sW.trans rfl))
  (z_cons2 (z_for (q := false) c (zi_seq (z_add (z_tup (z_cons (z_ix c (z_ix c (z_ix c (z_var c (by decide +kernel)) (z_int)) (z_ix c (z_var c (by decide +kernel)) (z_int))) (z_int)) (z_nil))) (z_ix c (z_ix c (z_ix c (z_var c (by decide +kernel)) (z_int)) (z_ix c (z_var c (by decide +kernel)) (z_int))) (z_int)))) (zg_name c (by decide +kernel)) (z_cons2 (z_set c (by decide +kernel) (z_dictC c (z_cons (z_var c (by decide +kernel)) (z_nil))) (hs := c.sW.trans rfl))
  (z_cons2 (z_put c (z_var c (by decide +kernel)) (z_ix c (z_var c (by decide +kernel)) (z_int)) (z_var c (by decide +kernel)))
  (z_cons2 (z_asg (z_call c Fr (z_cons (z_var c (by decide +kernel)) (z_cons (z_var c (by decide +kernel)) (z_cons (z_var c (by decide +kernel)) (z_nil))))) (zg_tup c (zgs_cons (zg_name c (by decide +kernel)) (zgs_cons (zg_name c (by decide +kernel)) (zgs_nil)))))
  (z_cons2 (z_ifS (z_eqT c (z_var c (by decide +kernel)) (z_str)) (z_sone (z_ret (z_tup (z_cons (z_var c (by decide +kernel)) (z_cons (z_var c (by decide +kernel)) (z_nil)))))) (z_snil))
  (z_sone (z_expr (z_append (z_var c (by decide +kernel)) (z_cons (z_var c (by decide +kernel)) (z_nil))) (hs := c.sW.trans rfl))))))))
  (z_sone (z_ret (z_tup (z_cons (z_str) (z_cons (z_tup (z_cons (z_str) (z_cons (z_ix c (z_var c (by decide +kernel)) (z_int)) (z_cons (z_tuple c (z_cons (z_var c (by decide +kernel)) (z_nil))) (z_nil))))) (z_nil)))))))))))
/-! ### firsts -/
def nm16 : List (Str × NameKind) := [("count", .cell), ("tuple", .globalImplicit)]
def N16 : List Str := ["count", "name"]
theorem sc16 : FnScope N16 ["count"] (defScope (topS 16)) := ⟨rfl, rfl, rfl, by decide +kernel, rfl, by decide +kernel, by decide +kernel⟩
def b16 : Fn Ct :=
  fRet (fCall gTuple (fCons (fVal (fLc (fSrc (fBin gIx (fVar 0) (fC (.int 0)))) [1] (gNm 1) (fTest (fBin gEq (fBin gIx (fCall φ15 (fCons (fVar 0) (fCons (fVar 1) (fCons (fDict0) (fNil))))) (fC (.int 0))) (fC (.str (Str.ofString "end"))))) (fVar 1))) (fNil)))
def φ16 : Phi := fDef 1 2 b16
theorem zb16 {G : Gz} {X : Cx} (F15 : Fz G 34 "searched" 3 φ15) (c : Cz G bs 34 X N16 nm16 (fun _ => true)) : ZB X (defBody (topS 16)) b16 :=
  z_sone (z_ret (z_tuple c (z_cons (z_val (z_lc (q := false) c [("name", 1)] (zi_seq (z_ix c (z_var c (by decide +kernel)) (z_int))) (fun Xc1 c1 => ⟨zg_name c1 (by decide +kernel), zts_one (z_eqT c1 (z_ix c1 (z_call c1 F15 (z_cons (z_var c1 (by decide +kernel)) (z_cons (z_var c1 (by decide +kernel)) (z_cons (z_dict0) (z_nil))))) (z_int)) (z_str)), z_var c1 (by decide +kernel)⟩))) (z_nil))))
/-! ### _law_feed -/
def nm18 : List (Str × NameKind) := [("script", .local)]
def N18 : List Str := ["script"]
theorem sc18 : FnScope N18 ["script"] (defScope (topS 18)) := ⟨rfl, rfl, rfl, by decide +kernel, rfl, by decide +kernel, by decide +kernel⟩
def b18 : Fn Ct :=
  fRet (fNew (fLst (fCons (fSl (fVar 0) (fNoPart) (fPart (fC (.int 63)))) (fCons (fC (.int 0)) (fCons (fC (.int 0)) (fCons (fC (.int 0)) (fNil)))))))
def φ18 : Phi := fDefN 1 1 b18
theorem zb18 {G : Gz} {X : Cx} (c : Cz G bs 36 X N18 nm18 (fun _ => true)) : ZB X (defBody (topS 18)) b18 :=
  z_sone (z_ret (z_new (z_lst (z_cons (z_slice (z_var c (by decide +kernel)) (zo_none) (zo_some (z_int))) (z_cons (z_int) (z_cons (z_int) (z_cons (z_int) (z_nil))))))))
/-! ### _law_draw -/
def nm19 : List (Str × NameKind) := [("feed", .local), ("many", .local), ("cells", .local), ("at", .local), ("rest", .local), ("turn", .local), ("cell", .local), ("mixed", .local), ("len", .globalImplicit)]
def N19 : List Str := ["feed", "many", "cells", "at", "rest", "turn", "cell", "mixed"]
theorem sc19 : FnScope N19 ["feed", "many"] (defScope (topS 19)) := ⟨rfl, rfl, rfl, by decide +kernel, rfl, by decide +kernel, by decide +kernel⟩
def b19 : Fn Ct :=
  fSeq (fAsg (fVar 0) (gTpL 4 (gsCons (gNm 2) (gsCons (gNm 3) (gsCons (gNm 4) (gsCons (gNm 5) (gsNil)))))))
  (fSeq (fPut (fVar 0) (fC (.int 3)) (fBin gAdd (fVar 5) (fC (.int 1))))
  (fSeq (fIfS (fTest (fBin gGt (fVar 4) (fC (.int 0)))) (fSeq (fPut (fVar 0) (fC (.int 2)) (fBin gDiv (fVar 4) (fVar 1)))
  (fRet (fBin gMod (fVar 4) (fVar 1)))) (fNop))
  (fSeq (fPut (fVar 0) (fC (.int 1)) (fBin gAdd (fVar 3) (fC (.int 1))))
  (fSeq (fSet 6 (fIf (fTest (fBin gGt (fCall gLen (fCons (fVar 2) (fNil))) (fC (.int 0)))) (fBin gIx (fVar 2) (fBin gMod (fVar 3) (fCall gLen (fCons (fVar 2) (fNil))))) (fC (.int 11))))
  (fSeq (fIfS (fAndT (fTest (fBin gGe (fVar 6) (fBin gPow (fC (.int 10)) (fC (.int 18))))) (fTest (fBin gLt (fVar 3) (fCall gLen (fCons (fVar 2) (fNil)))))) (fSeq (fPut (fVar 0) (fC (.int 2)) (fBin gDiv (fVar 6) (fVar 1)))
  (fRet (fBin gMod (fVar 6) (fVar 1)))) (fNop))
  (fSeq (fSet 7 (fBin gMod (fBin gPow (fBin gAdd (fBin gAdd (fBin gMod (fVar 6) (fC (.int 2147483629))) (fBin gMul (fC (.int 6151)) (fVar 5))) (fC (.int 389))) (fC (.int 5))) (fC (.int 2147483647))))
  (fSeq (fSet 7 (fBin gMod (fBin gPow (fBin gAdd (fBin gAdd (fVar 7) (fBin gMul (fC (.int 24593)) (fVar 5))) (fC (.int 53))) (fC (.int 5))) (fC (.int 2147483587))))
  (fRet (fBin gMod (fBin gDiv (fVar 7) (fC (.int 64))) (fVar 1))))))))))
def φ19 : Phi := fDef 2 8 b19
theorem zb19 {G : Gz} {X : Cx} (c : Cz G bs 37 X N19 nm19 (fun _ => true)) : ZB X (defBody (topS 19)) b19 :=
  z_cons2 (z_asg (z_var c (by decide +kernel)) (zg_tupL c (zgs_cons (zg_name c (by decide +kernel)) (zgs_cons (zg_name c (by decide +kernel)) (zgs_cons (zg_name c (by decide +kernel)) (zgs_cons (zg_name c (by decide +kernel)) (zgs_nil)))))))
  (z_cons2 (z_put c (z_var c (by decide +kernel)) (z_int) (z_add (z_var c (by decide +kernel)) (z_int)))
  (z_cons2 (z_ifS (z_gtT c (z_var c (by decide +kernel)) (z_int)) (z_cons2 (z_put c (z_var c (by decide +kernel)) (z_int) (z_div (z_var c (by decide +kernel)) (z_var c (by decide +kernel))))
  (z_sone (z_ret (z_mod (z_var c (by decide +kernel)) (z_var c (by decide +kernel)))))) (z_snil))
  (z_cons2 (z_put c (z_var c (by decide +kernel)) (z_int) (z_add (z_var c (by decide +kernel)) (z_int)))
  (z_cons2 (z_set c (by decide +kernel) (z_if (z_gtT c (z_len c (z_cons (z_var c (by decide +kernel)) (z_nil))) (z_int)) (z_ix c (z_var c (by decide +kernel)) (z_mod (z_var c (by decide +kernel)) (z_len c (z_cons (z_var c (by decide +kernel)) (z_nil))))) (z_int)) (hs := c.sW.trans rfl))
  (z_cons2 (z_ifS (z_wT (w_and (z_geT c (z_var c (by decide +kernel)) (z_pow (z_int) (z_int))) (w_and1 (z_ltT c (z_var c (by decide +kernel)) (z_len c (z_cons (z_var c (by decide +kernel)) (z_nil))))))) (z_cons2 (z_put c (z_var c (by decide +kernel)) (z_int) (z_div (z_var c (by decide +kernel)) (z_var c (by decide +kernel))))
  (z_sone (z_ret (z_mod (z_var c (by decide +kernel)) (z_var c (by decide +kernel)))))) (z_snil))
  (z_cons2 (z_set c (by decide +kernel) (z_mod (z_pow (z_add (z_add (z_mod (z_var c (by decide +kernel)) (z_int)) (z_mul (z_int) (z_var c (by decide +kernel)))) (z_int)) (z_int)) (z_int)) (hs := c.sW.trans rfl))
  (z_cons2 (z_set c (by decide +kernel) (z_mod (z_pow (z_add (z_add (z_var c (by decide +kernel)) (z_mul (z_int) (z_var c (by decide +kernel)))) (z_int)) (z_int)) (z_int)) (hs := c.sW.trans rfl))
  (z_sone (z_ret (z_mod (z_div (z_var c (by decide +kernel)) (z_int)) (z_var c (by decide +kernel))))))))))))
/-! ### _law_lots -/
def nm20 : List (Str × NameKind) := [("feed", .cell), ("pool", .cell), ("tuple", .globalImplicit), ("range", .globalImplicit), ("_law_draw", .globalImplicit)]
def N20 : List Str := ["feed", "pool", "k"]
theorem sc20 : FnScope N20 ["feed"] (defScope (topS 20)) := ⟨rfl, rfl, rfl, by decide +kernel, rfl, by decide +kernel, by decide +kernel⟩
def b20 : Fn Ct :=
  fSeq (fSet 1 (fNew (fLst (fCons (fC (.str (Str.ofString "a"))) (fCons (fC (.str (Str.ofString "ab"))) (fCons (fC (.str (Str.ofString "b"))) (fCons (fC (.str (Str.ofString "bob"))) (fCons (fC (.str (Str.ofString "cy"))) (fCons (fC (.str (Str.ofString "zzzzzzzz"))) (fNil))))))))))
  (fRet (fCall gTuple (fCons (fVal (fLc (fRng1 (fCons (fBin gAdd (fC (.int 2)) (fCall φ19 (fCons (fVar 0) (fCons (fC (.int 5)) (fNil))))) (fNil))) [2] (gNm 2) (fYes) (fMt isL gPopAt (fVar 1) (fCons (fCall φ19 (fCons (fVar 0) (fCons (fCall gLen (fCons (fVar 1) (fNil))) (fNil)))) (fNil))))) (fNil))))
def φ20 : Phi := fDef 1 3 b20
theorem zb20 {G : Gz} {X : Cx} (F19 : Fz G 38 "_law_draw" 2 φ19) (c : Cz G bs 38 X N20 nm20 (fun _ => true)) : ZB X (defBody (topS 20)) b20 :=
  z_cons2 (z_set c (by decide +kernel) (z_new (z_lst (z_cons (z_str) (z_cons (z_str) (z_cons (z_str) (z_cons (z_str) (z_cons (z_str) (z_cons (z_str) (z_nil))))))))) (hs := c.sW.trans rfl))
  (z_sone (z_ret (z_tuple c (z_cons (z_val (z_lc (q := false) c [("k", 2)] (zi_rng1 c (z_cons (z_add (z_int) (z_call c F19 (z_cons (z_var c (by decide +kernel)) (z_cons (z_int) (z_nil))))) (z_nil))) (fun Xc1 c1 => ⟨zg_name c1 (by decide +kernel), zts_nil, z_popAt (z_var c1 (by decide +kernel)) (z_cons (z_call c1 F19 (z_cons (z_var c1 (by decide +kernel)) (z_cons (z_len c1 (z_cons (z_var c1 (by decide +kernel)) (z_nil))) (z_nil)))) (z_nil))⟩))) (z_nil)))))
/-! ### _law_some -/
def nm21 : List (Str × NameKind) := [("feed", .cell), ("names", .local), ("many", .local), ("left", .cell), ("list", .globalImplicit), ("tuple", .globalImplicit), ("sorted", .globalImplicit), ("range", .globalImplicit), ("min", .globalImplicit), ("len", .globalImplicit)]
def N21 : List Str := ["feed", "names", "many", "left", "k"]
theorem sc21 : FnScope N21 ["feed", "names", "many"] (defScope (topS 21)) := ⟨rfl, rfl, rfl, by decide +kernel, rfl, by decide +kernel, by decide +kernel⟩
def b21 : Fn Ct :=
  fSeq (fSet 3 (fNew (fCallL gList (fCons (fVar 1) (fNil)))))
  (fRet (fCall gTuple (fCons (fVal (fCallL gSorted (fCons (fVal (fLc (fRng1 (fCons (fCall (gTwo fun i j => if j < i then j else i) (fCons (fVar 2) (fCons (fCall gLen (fCons (fVar 3) (fNil))) (fNil)))) (fNil))) [4] (gNm 4) (fYes) (fMt isL gPopAt (fVar 3) (fCons (fCall φ19 (fCons (fVar 0) (fCons (fCall gLen (fCons (fVar 3) (fNil))) (fNil)))) (fNil))))) (fNil)))) (fNil))))
def φ21 : Phi := fDef 3 5 b21
theorem zb21 {G : Gz} {X : Cx} (F19 : Fz G 39 "_law_draw" 2 φ19) (c : Cz G bs 39 X N21 nm21 (fun _ => true)) : ZB X (defBody (topS 21)) b21 :=
  z_cons2 (z_set c (by decide +kernel) (z_new (z_list c (z_cons (z_var c (by decide +kernel)) (z_nil)))) (hs := c.sW.trans rfl))
  (z_sone (z_ret (z_tuple c (z_cons (z_val (z_sorted c (z_cons (z_val (z_lc (q := false) c [("k", 4)] (zi_rng1 c (z_cons (z_min2 c (z_cons (z_var c (by decide +kernel)) (z_cons (z_len c (z_cons (z_var c (by decide +kernel)) (z_nil))) (z_nil)))) (z_nil))) (fun Xc1 c1 => ⟨zg_name c1 (by decide +kernel), zts_nil, z_popAt (z_var c1 (by decide +kernel)) (z_cons (z_call c1 F19 (z_cons (z_var c1 (by decide +kernel)) (z_cons (z_len c1 (z_cons (z_var c1 (by decide +kernel)) (z_nil))) (z_nil)))) (z_nil))⟩))) (z_nil)))) (z_nil)))))
/-! ### _law_count -/
def nm22 : List (Str × NameKind) := [("feed", .cell), ("great", .local), ("lots", .cell), ("most", .local), ("off", .local), ("piles", .local), ("wrong", .local), ("k", .local), ("name", .cell), ("others", .local), ("doubts", .local), ("_law_lots", .globalImplicit), ("_law_draw", .globalImplicit), ("range", .globalImplicit), ("len", .globalImplicit), ("_law_some", .globalImplicit), ("tuple", .globalImplicit)]
def N22 : List Str := ["feed", "great", "lots", "most", "off", "piles", "wrong", "k", "name", "others", "doubts", "one"]
theorem sc22 : FnScope N22 ["feed", "great"] (defScope (topS 22)) := ⟨rfl, rfl, rfl, by decide +kernel, rfl, by decide +kernel, by decide +kernel⟩
def b22 : Fn Ct :=
  fSeq (fSet 2 (fCall φ20 (fCons (fVar 0) (fNil))))
  (fSeq (fAsg (fBin gIx (fVal (fLst (fCons (fTup (fCons (fC (.int 3)) (fCons (fC (.int 2)) (fNil)))) (fCons (fTup (fCons (fC (.int 3)) (fCons (fC (.int 2)) (fNil)))) (fCons (fTup (fCons (fC (.int 12)) (fCons (fC (.int 5)) (fNil)))) (fCons (fTup (fCons (fBin gPow (fC (.int 10)) (fC (.int 6))) (fCons (fBin gPow (fC (.int 10)) (fC (.int 4))) (fNil)))) (fNil))))))) (fCall φ19 (fCons (fVar 0) (fCons (fC (.int 4)) (fNil))))) (gTp 2 (gsCons (gNm 3) (gsCons (gNm 4) (gsNil)))))
  (fSeq (fPar2 5 6 (fCons (fNew (fLst (fNil))) (fCons (fC (.int 0)) (fNil))))
  (fSeq (fFor (fRng1 (fCons (fBin gIx (fVal (fLst (fCons (fCall φ19 (fCons (fVar 0) (fCons (fC (.int 6)) (fNil)))) (fCons (fC (.int 10)) (fNil))))) (fVar 1)) (fNil))) (gNm 7) (fSeq (fSet 8 (fBin gIx (fVar 2) (fCall φ19 (fCons (fVar 0) (fCons (fCall gLen (fCons (fVar 2) (fNil))) (fNil))))))
  (fSeq (fSet 9 (fTup (fNil)))
  (fSeq (fIfS (fAndT (fTest (fBin gLt (fVar 6) (fC (.int 3)))) (fTest (fBin gEq (fCall φ19 (fCons (fVar 0) (fCons (fC (.int 3)) (fNil)))) (fC (.int 0))))) (fSeq (fSet 9 (fCall φ21 (fCons (fVar 0) (fCons (fVal (fLc (fSrc (fVar 2)) [11] (gNm 11) (fTest (fBin gNe (fVar 11) (fVar 8))) (fVar 11))) (fCons (fBin gAdd (fC (.int 1)) (fCall φ19 (fCons (fVar 0) (fCons (fC (.int 2)) (fNil))))) (fNil))))))
  (fSet 6 (fBin gAdd (fVar 6) (fC (.int 1))))) (fNop))
  (fDrop (fMt isL gAppend (fVar 5) (fCons (fTup (fCons (fVar 8) (fCons (fCall φ19 (fCons (fVar 0) (fCons (fBin gAdd (fVar 3) (fC (.int 1))) (fNil)))) (fCons (fCall φ19 (fCons (fVar 0) (fCons (fBin gAdd (fVar 4) (fC (.int 1))) (fNil)))) (fCons (fVar 9) (fNil)))))) (fNil))))))))
  (fSeq (fSet 10 (fVal (fLc (fRng1 (fCons (fBin gIx (fVal (fLst (fCons (fCall φ19 (fCons (fVar 0) (fCons (fC (.int 5)) (fNil)))) (fCons (fC (.int 12)) (fNil))))) (fVar 1)) (fNil))) [7] (gNm 7) (fYes) (fCall φ21 (fCons (fVar 0) (fCons (fVar 2) (fCons (fBin gAdd (fC (.int 1)) (fCall φ19 (fCons (fVar 0) (fCons (fCall gLen (fCons (fVar 2) (fNil))) (fNil))))) (fNil))))))))
  (fRet (fTup (fCons (fVar 2) (fCons (fCall gTuple (fCons (fVar 5) (fNil))) (fCons (fCall gTuple (fCons (fVar 10) (fNil))) (fNil))))))))))
def φ22 : Phi := fDef 2 12 b22
theorem zb22 {G : Gz} {X : Cx} (F20 : Fz G 40 "_law_lots" 1 φ20) (F19 : Fz G 40 "_law_draw" 2 φ19) (F21 : Fz G 40 "_law_some" 3 φ21) (c : Cz G bs 40 X N22 nm22 (fun _ => true)) : ZB X (defBody (topS 22)) b22 :=
  z_cons2 (z_set c (by decide +kernel) (z_call c F20 (z_cons (z_var c (by decide +kernel)) (z_nil))) (hs := c.sW.trans rfl))
  (z_cons2 (z_asg (z_ix c (z_val (z_lst (z_cons (z_tup (z_cons (z_int) (z_cons (z_int) (z_nil)))) (z_cons (z_tup (z_cons (z_int) (z_cons (z_int) (z_nil)))) (z_cons (z_tup (z_cons (z_int) (z_cons (z_int) (z_nil)))) (z_cons (z_tup (z_cons (z_pow (z_int) (z_int)) (z_cons (z_pow (z_int) (z_int)) (z_nil)))) (z_nil))))))) (z_call c F19 (z_cons (z_var c (by decide +kernel)) (z_cons (z_int) (z_nil))))) (zg_tup c (zgs_cons (zg_name c (by decide +kernel)) (zgs_cons (zg_name c (by decide +kernel)) (zgs_nil)))))
  (z_cons2 (z_par2 c (z_cons (z_new (z_lst (z_nil))) (z_cons (z_int) (z_nil))) rfl rfl (by decide) rfl rfl rfl)
  (z_cons2 (z_for (q := false) c (zi_rng1 c (z_cons (z_ix c (z_val (z_lst (z_cons (z_call c F19 (z_cons (z_var c (by decide +kernel)) (z_cons (z_int) (z_nil)))) (z_cons (z_int) (z_nil))))) (z_var c (by decide +kernel))) (z_nil))) (zg_name c (by decide +kernel)) (z_cons2 (z_set c (by decide +kernel) (z_ix c (z_var c (by decide +kernel)) (z_call c F19 (z_cons (z_var c (by decide +kernel)) (z_cons (z_len c (z_cons (z_var c (by decide +kernel)) (z_nil))) (z_nil))))) (hs := c.sW.trans rfl))
  (z_cons2 (z_set c (by decide +kernel) (z_tup (z_nil)) (hs := c.sW.trans rfl))
  (z_cons2 (z_ifS (z_wT (w_and (z_ltT c (z_var c (by decide +kernel)) (z_int)) (w_and1 (z_eqT c (z_call c F19 (z_cons (z_var c (by decide +kernel)) (z_cons (z_int) (z_nil)))) (z_int))))) (z_cons2 (z_set c (by decide +kernel) (z_call c F21 (z_cons (z_var c (by decide +kernel)) (z_cons (z_val (z_lc (q := false) c [("one", 11)] (zi_seq (z_var c (by decide +kernel))) (fun Xc1 c1 => ⟨zg_name c1 (by decide +kernel), zts_one (z_neT c1 (z_var c1 (by decide +kernel)) (z_var c1 (by decide +kernel))), z_var c1 (by decide +kernel)⟩))) (z_cons (z_add (z_int) (z_call c F19 (z_cons (z_var c (by decide +kernel)) (z_cons (z_int) (z_nil))))) (z_nil))))) (hs := c.sW.trans rfl))
  (z_sone (z_set c (by decide +kernel) (z_add (z_var c (by decide +kernel)) (z_int)) (hs := c.sW.trans rfl)))) (z_snil))
  (z_sone (z_expr (z_append (z_var c (by decide +kernel)) (z_cons (z_tup (z_cons (z_var c (by decide +kernel)) (z_cons (z_call c F19 (z_cons (z_var c (by decide +kernel)) (z_cons (z_add (z_var c (by decide +kernel)) (z_int)) (z_nil)))) (z_cons (z_call c F19 (z_cons (z_var c (by decide +kernel)) (z_cons (z_add (z_var c (by decide +kernel)) (z_int)) (z_nil)))) (z_cons (z_var c (by decide +kernel)) (z_nil)))))) (z_nil))) (hs := c.sW.trans rfl)))))))
  (z_cons2 (z_setLc (q := false) c [("k", 7)] (zi_rng1 c (z_cons (z_ix c (z_val (z_lst (z_cons (z_call c F19 (z_cons (z_var c (by decide +kernel)) (z_cons (z_int) (z_nil)))) (z_cons (z_int) (z_nil))))) (z_var c (by decide +kernel))) (z_nil))) (fun Xc1 c1 => ⟨zg_name c1 (by decide +kernel), zts_nil, z_call c1 F21 (z_cons (z_var c1 (by decide +kernel)) (z_cons (z_var c1 (by decide +kernel)) (z_cons (z_add (z_int) (z_call c1 F19 (z_cons (z_var c1 (by decide +kernel)) (z_cons (z_len c1 (z_cons (z_var c1 (by decide +kernel)) (z_nil))) (z_nil))))) (z_nil))))⟩))
  (z_sone (z_ret (z_tup (z_cons (z_var c (by decide +kernel)) (z_cons (z_tuple c (z_cons (z_var c (by decide +kernel)) (z_nil))) (z_cons (z_tuple c (z_cons (z_var c (by decide +kernel)) (z_nil))) (z_nil)))))))))))
/-! ### _law_under -/
def nm23 : List (Str × NameKind) := [("count", .local), ("placed", .local), ("k", .local)]
def N23 : List Str := ["count", "placed", "k"]
theorem sc23 : FnScope N23 ["count", "placed", "k"] (defScope (topS 23)) := ⟨rfl, rfl, rfl, by decide +kernel, rfl, by decide +kernel, by decide +kernel⟩
def b23 : Fn Ct :=
  fRet (fIf (fTest (fBin gInK (fVar 2) (fVar 1))) (fTup (fCons (fBin gIx (fVar 1) (fVar 2)) (fNil))) (fBin gAdd (fTup (fCons (fBin gIx (fBin gIx (fBin gIx (fVar 0) (fC (.int 1))) (fVar 2)) (fC (.int 0))) (fNil))) (fBin gIx (fBin gIx (fBin gIx (fVar 0) (fC (.int 1))) (fVar 2)) (fC (.int 3)))))
def φ23 : Phi := fDef 3 3 b23
theorem zb23 {G : Gz} {X : Cx} (c : Cz G bs 41 X N23 nm23 (fun _ => true)) : ZB X (defBody (topS 23)) b23 :=
  z_sone (z_ret (z_if (z_inKT c (z_var c (by decide +kernel)) (z_var c (by decide +kernel))) (z_tup (z_cons (z_ix c (z_var c (by decide +kernel)) (z_var c (by decide +kernel))) (z_nil))) (z_add (z_tup (z_cons (z_ix c (z_ix c (z_ix c (z_var c (by decide +kernel)) (z_int)) (z_var c (by decide +kernel))) (z_int)) (z_nil))) (z_ix c (z_ix c (z_ix c (z_var c (by decide +kernel)) (z_int)) (z_var c (by decide +kernel))) (z_int)))))
/-! ### _law_is_barred -/
def nm24 : List (Str × NameKind) := [("count", .cell), ("name", .local), ("names", .cell), ("placed", .local), ("have", .local), ("greatest", .local), ("k", .local), ("own", .local), ("many", .local), ("slip", .local), ("others", .local), ("under", .local), ("some", .local), ("at", .cell), ("enumerate", .globalImplicit), ("_law_under", .globalImplicit), ("max", .globalImplicit), ("int", .globalImplicit), ("len", .globalImplicit)]
def N24 : List Str := ["count", "name", "names", "placed", "have", "greatest", "k", "own", "many", "slip", "others", "under", "some", "at", "one"]
theorem sc24 : FnScope N24 ["count", "name", "names", "placed"] (defScope (topS 24)) := ⟨rfl, rfl, rfl, by decide +kernel, rfl, by decide +kernel, by decide +kernel⟩
def b24 : Fn Ct :=
  fSeq (fAsg (fTup (fCons (fC (.int 0)) (fCons (fC (.int 0)) (fNil)))) (gTp 2 (gsCons (gNm 4) (gsCons (gNm 5) (gsNil)))))
  (fSeq (fFor (fEnum (fCons (fBin gIx (fVar 0) (fC (.int 1))) (fNil))) (gTp 2 (gsCons (gNm 6) (gsCons (gTp 4 (gsCons (gNm 7) (gsCons (gNm 8) (gsCons (gNm 9) (gsCons (gNm 10) (gsNil)))))) (gsNil)))) (fSeq (fSet 11 (fCall φ23 (fCons (fVar 0) (fCons (fVar 3) (fCons (fVar 6) (fNil))))))
  (fSeq (fIfS (fTest (fBin gEq (fVal (fLc (fSrc (fVar 11)) [14] (gNm 14) (fTest (fBin gNotIn (fVar 14) (fVar 2))) (fVar 14))) (fVal (fLst (fNil))))) (fSet 4 (fBin gAdd (fVar 4) (fCall (gTwo fun i j => if j > i then j else i) (fCons (fC (.int 0)) (fCons (fBin gSub (fVar 8) (fVar 9)) (fNil)))))) (fNop))
  (fIfS (fTest (fBin gIn (fVar 1) (fVar 11))) (fSet 5 (fBin gAdd (fBin gAdd (fVar 5) (fVar 8)) (fVar 9))) (fNop)))))
  (fSeq (fFor (fSrc (fBin gIx (fVar 0) (fC (.int 2)))) (gNm 12) (fSeq (fSet 4 (fBin gAdd (fVar 4) (fCall gToInt (fCons (fBin gEq (fVal (fLc (fSrc (fVar 12)) [14] (gNm 14) (fTest (fBin gNotIn (fVar 14) (fVar 2))) (fVar 14))) (fVal (fLst (fNil)))) (fNil)))))
  (fSet 5 (fBin gAdd (fVar 5) (fCall gToInt (fCons (fBin gIn (fVar 1) (fVar 12)) (fNil)))))))
  (fSeq (fSet 13 (fIndex (fBin gIx (fVar 0) (fC (.int 0))) (fCons (fVar 1) (fNil))))
  (fRet (fBin gGt (fVar 4) (fBin gSub (fBin gMul (fVar 5) (fCall gLen (fCons (fVar 2) (fNil)))) (fCall gLen (fCons (fVal (fLc (fSrc (fVar 2)) [14] (gNm 14) (fTest (fBin gIn (fVar 14) (fSl (fBin gIx (fVar 0) (fC (.int 0))) (fNoPart) (fPart (fVar 13))))) (fVar 14))) (fNil)))))))))
def φ24 : Phi := fDef 4 15 b24
theorem zb24 {G : Gz} {X : Cx} (F23 : Fz G 42 "_law_under" 3 φ23) (c : Cz G bs 42 X N24 nm24 (fun _ => true)) : ZB X (defBody (topS 24)) b24 :=
  z_cons2 (z_asg (z_tup (z_cons (z_int) (z_cons (z_int) (z_nil)))) (zg_tup c (zgs_cons (zg_name c (by decide +kernel)) (zgs_cons (zg_name c (by decide +kernel)) (zgs_nil)))) (hw := c.sw.trans rfl))
  (z_cons2 (z_for (q := true) c (zi_enum c (z_cons (z_ix c (z_var c (by decide +kernel)) (z_int)) (z_nil))) (zg_tup c (zgs_cons (zg_name c (by decide +kernel)) (zgs_cons (zg_tup c (zgs_cons (zg_name c (by decide +kernel)) (zgs_cons (zg_name c (by decide +kernel)) (zgs_cons (zg_name c (by decide +kernel)) (zgs_cons (zg_name c (by decide +kernel)) (zgs_nil)))))) (zgs_nil)))) (z_cons2 (z_set c (by decide +kernel) (z_call c F23 (z_cons (z_var c (by decide +kernel)) (z_cons (z_var c (by decide +kernel)) (z_cons (z_var c (by decide +kernel)) (z_nil))))) (hs := c.sW.trans rfl))
  (z_cons2 (z_ifS (z_eqT c (z_val (z_lc (q := false) c [("one", 14)] (zi_seq (z_var c (by decide +kernel))) (fun Xc1 c1 => ⟨zg_name c1 (by decide +kernel), zts_one (z_notinT c1 (z_var c1 (by decide +kernel)) (z_var c1 (by decide +kernel))), z_var c1 (by decide +kernel)⟩))) (z_val (z_lst (z_nil)))) (z_sone (z_set c (by decide +kernel) (z_add (z_var c (by decide +kernel)) (z_max2 c (z_cons (z_int) (z_cons (z_sub (z_var c (by decide +kernel)) (z_var c (by decide +kernel))) (z_nil))))) (hs := c.sW.trans rfl))) (z_snil))
  (z_sone (z_ifS (z_inT c (z_var c (by decide +kernel)) (z_var c (by decide +kernel))) (z_sone (z_set c (by decide +kernel) (z_add (z_add (z_var c (by decide +kernel)) (z_var c (by decide +kernel))) (z_var c (by decide +kernel))) (hs := c.sW.trans rfl))) (z_snil))))))
  (z_cons2 (z_for (q := false) c (zi_seq (z_ix c (z_var c (by decide +kernel)) (z_int))) (zg_name c (by decide +kernel)) (z_cons2 (z_set c (by decide +kernel) (z_add (z_var c (by decide +kernel)) (z_toint c (z_cons (z_eq c (z_val (z_lc (q := false) c [("one", 14)] (zi_seq (z_var c (by decide +kernel))) (fun Xc1 c1 => ⟨zg_name c1 (by decide +kernel), zts_one (z_notinT c1 (z_var c1 (by decide +kernel)) (z_var c1 (by decide +kernel))), z_var c1 (by decide +kernel)⟩))) (z_val (z_lst (z_nil)))) (z_nil)))) (hs := c.sW.trans rfl))
  (z_sone (z_set c (by decide +kernel) (z_add (z_var c (by decide +kernel)) (z_toint c (z_cons (z_in c (z_var c (by decide +kernel)) (z_var c (by decide +kernel))) (z_nil)))) (hs := c.sW.trans rfl)))))
  (z_cons2 (z_set c (by decide +kernel) (z_index (z_ix c (z_var c (by decide +kernel)) (z_int)) (z_cons (z_var c (by decide +kernel)) (z_nil))) (hs := c.sW.trans rfl))
  (z_sone (z_ret (z_gt c (z_var c (by decide +kernel)) (z_sub (z_mul (z_var c (by decide +kernel)) (z_len c (z_cons (z_var c (by decide +kernel)) (z_nil)))) (z_len c (z_cons (z_val (z_lc (q := false) c [("one", 14)] (zi_seq (z_var c (by decide +kernel))) (fun Xc1 c1 => ⟨zg_name c1 (by decide +kernel), zts_one (z_inT c1 (z_var c1 (by decide +kernel)) (z_slice (z_ix c1 (z_var c1 (by decide +kernel)) (z_int)) (zo_none) (zo_some (z_var c1 (by decide +kernel))))), z_var c1 (by decide +kernel)⟩))) (z_nil))))))))))
/-! ### _law_rows -/
def nm25 : List (Str × NameKind) := [("names", .local), ("found", .local), ("name", .cell), ("sorted", .globalImplicit)]
def N25 : List Str := ["names", "found", "name", "row"]
theorem sc25 : FnScope N25 ["names"] (defScope (topS 25)) := ⟨rfl, rfl, rfl, by decide +kernel, rfl, by decide +kernel, by decide +kernel⟩
def b25 : Fn Ct :=
  fSeq (fSet 1 (fVal (fLst (fCons (fTup (fNil)) (fNil)))))
  (fSeq (fFor (fSrc (fVal (fCallL gSorted (fCons (fVar 0) (fNil))))) (gNm 2) (fSet 1 (fVal (fCatL (fVar 1) (fVal (fLc (fSrc (fVar 1)) [3] (gNm 3) (fYes) (fBin gAdd (fVar 3) (fTup (fCons (fVar 2) (fNil))))))))))
  (fRet (fVar 1)))
def φ25 : Phi := fDef 1 4 b25
theorem zb25 {G : Gz} {X : Cx} (c : Cz G bs 43 X N25 nm25 (fun _ => true)) : ZB X (defBody (topS 25)) b25 :=
  z_cons2 (z_set c (by decide +kernel) (z_val (z_lst (z_cons (z_tup (z_nil)) (z_nil)))) (hs := c.sW.trans rfl))
  (z_cons2 (z_for (q := false) c (zi_seq (z_val (z_sorted c (z_cons (z_var c (by decide +kernel)) (z_nil))))) (zg_name c (by decide +kernel)) (z_sone (z_set c (by decide +kernel) (z_val (z_catL (z_var c (by decide +kernel)) (z_val (z_lc (q := false) c [("row", 3)] (zi_seq (z_var c (by decide +kernel))) (fun Xc1 c1 => ⟨zg_name c1 (by decide +kernel), zts_nil, z_add (z_var c1 (by decide +kernel)) (z_tup (z_cons (z_var c1 (by decide +kernel)) (z_nil)))⟩))))) (hs := c.sW.trans rfl))))
  (z_sone (z_ret (z_var c (by decide +kernel)))))
/-! ### _law_alike -/
def nm26 : List (Str × NameKind) := [("found", .local), ("due", .local), ("isinstance", .globalImplicit), ("tuple", .globalImplicit), ("list", .globalImplicit), ("len", .globalImplicit), ("all", .globalImplicit), ("zip", .globalImplicit), ("bool", .globalImplicit), ("str", .globalImplicit), ("int", .globalImplicit)]
def N26 : List Str := ["found", "due", "one", "other"]
theorem sc26 : FnScope N26 ["found", "due"] (defScope (topS 26)) := ⟨rfl, rfl, rfl, by decide +kernel, rfl, by decide +kernel, by decide +kernel⟩
def b26 (ψ : Phi) : Fn Ct :=
  fSeq (fIfS (fTest (fIsiT ["tuple", "list"] (fVar 1))) (fSeq (fIfS (fOrT (fTest (fBin gNe (fIsi "tuple" (fVar 0)) (fIsi "tuple" (fVar 1)))) (fTest (fBin gNe (fIsi "list" (fVar 0)) (fIsi "list" (fVar 1))))) (fRet (fC (.bl false))) (fNop))
  (fRet (fAnd (fBin gEq (fCall gLen (fCons (fVar 0) (fNil))) (fCall gLen (fCons (fVar 1) (fNil)))) (fCall gAll (fCons (fVal (fLc (fZip (fCons (fVar 0) (fCons (fVar 1) (fNil)))) [2, 3] (gTp 2 (gsCons (gNm 2) (gsCons (gNm 3) (gsNil)))) (fYes) (fCall ψ (fCons (fVar 2) (fCons (fVar 3) (fNil)))))) (fNil)))))) (fNop))
  (fSeq (fIfS (fTest (fBin gIs (fVar 1) (fC .non))) (fRet (fBin gIs (fVar 0) (fC .non))) (fNop))
  (fSeq (fIfS (fOrT (fTest (fIsi "bool" (fVar 1))) (fTest (fIsi "str" (fVar 1)))) (fRet (fAnd (fBin gEq (fIsi "bool" (fVar 0)) (fIsi "bool" (fVar 1))) (fAnd (fIsiT ["bool", "str"] (fVar 0)) (fBin gEq (fVar 0) (fVar 1))))) (fNop))
  (fRet (fAnd (fIsi "int" (fVar 0)) (fAnd (fNot (fIsi "bool" (fVar 0))) (fBin gEq (fVar 0) (fVar 1)))))))
def φ26 : Phi := recZ 2 4 b26 6
theorem zb26 {G : Gz} {X : Cx} {κ : Nat} {ψ : Phi} (Fr : Fz G κ "_law_alike" 2 ψ) (c : Cz G bs κ X N26 nm26 (fun _ => true)) : ZB X (defBody (topS 26)) (b26 ψ) :=
  z_cons2 (z_ifS (z_valT (z_isiT c "tuple" "list" (z_var c (by decide +kernel)))) (z_cons2 (z_ifS (z_wT (w_or (z_neT c (z_isi c "tuple" (z_var c (by decide +kernel))) (z_isi c "tuple" (z_var c (by decide +kernel)))) (w_or1 (z_neT c (z_isi c "list" (z_var c (by decide +kernel))) (z_isi c "list" (z_var c (by decide +kernel))))))) (z_sone (z_ret (z_bl))) (z_snil))
  (z_sone (z_ret (z_and (z_eq c (z_len c (z_cons (z_var c (by decide +kernel)) (z_nil))) (z_len c (z_cons (z_var c (by decide +kernel)) (z_nil)))) (z_one (z_all c (z_cons (z_val (z_lc (q := true) c [("one", 2), ("other", 3)] (zi_zip c (z_cons (z_var c (by decide +kernel)) (z_cons (z_var c (by decide +kernel)) (z_nil)))) (fun Xc1 c1 => ⟨zg_tup c1 (zgs_cons (zg_name c1 (by decide +kernel)) (zgs_cons (zg_name c1 (by decide +kernel)) (zgs_nil))), zts_nil, z_call c1 Fr (z_cons (z_var c1 (by decide +kernel)) (z_cons (z_var c1 (by decide +kernel)) (z_nil)))⟩))) (z_nil)))))))) (z_snil))
  (z_cons2 (z_ifS (z_isT c (z_var c (by decide +kernel)) (z_non)) (z_sone (z_ret (z_is c (z_var c (by decide +kernel)) (z_non)))) (z_snil))
  (z_cons2 (z_ifS (z_wT (w_or (z_valT (z_isi c "bool" (z_var c (by decide +kernel)))) (w_or1 (z_valT (z_isi c "str" (z_var c (by decide +kernel))))))) (z_sone (z_ret (z_and (z_eq c (z_isi c "bool" (z_var c (by decide +kernel))) (z_isi c "bool" (z_var c (by decide +kernel)))) (z_and (z_isiT c "bool" "str" (z_var c (by decide +kernel))) (z_one (z_eq c (z_var c (by decide +kernel)) (z_var c (by decide +kernel)))))))) (z_snil))
  (z_sone (z_ret (z_and (z_isi c "int" (z_var c (by decide +kernel))) (z_and (z_not (z_isi c "bool" (z_var c (by decide +kernel)))) (z_one (z_eq c (z_var c (by decide +kernel)) (z_var c (by decide +kernel))))))))))
/-! ### _law_placings -/
def nm27 : List (Str × NameKind) := [("count", .local), ("found", .local), ("k", .local), ("name", .local), ("many", .local), ("slip", .local), ("others", .local), ("longer", .local), ("placed", .local), ("own", .local), ("more", .local), ("enumerate", .globalImplicit), ("dict", .globalImplicit)]
def N27 : List Str := ["count", "found", "k", "name", "many", "slip", "others", "longer", "placed", "own", "more"]
theorem sc27 : FnScope N27 ["count"] (defScope (topS 27)) := ⟨rfl, rfl, rfl, by decide +kernel, rfl, by decide +kernel, by decide +kernel⟩
def b27 : Fn Ct :=
  fSeq (fSet 1 (fVal (fLst (fCons (fDict0) (fNil)))))
  (fSeq (fFor (fEnum (fCons (fBin gIx (fVar 0) (fC (.int 1))) (fNil))) (gTp 2 (gsCons (gNm 2) (gsCons (gTp 4 (gsCons (gNm 3) (gsCons (gNm 4) (gsCons (gNm 5) (gsCons (gNm 6) (gsNil)))))) (gsNil)))) (fSeq (fSet 7 (fNew (fLst (fNil))))
  (fSeq (fFor (fSrc (fVar 1)) (gNm 8) (fFor (fSrc (fIf (fTest (fBin gNe (fVar 6) (fTup (fNil)))) (fBin gAdd (fTup (fCons (fVar 3) (fNil))) (fVar 6)) (fTup (fNil)))) (gNm 9) (fSeq (fSet 10 (fCall gDictC (fCons (fVar 8) (fNil))))
  (fSeq (fPut (fVar 10) (fVar 2) (fVar 9))
  (fDrop (fMt isL gAppend (fVar 7) (fCons (fVar 10) (fNil))))))))
  (fSet 1 (fIf (fTest (fBin gNe (fVar 6) (fTup (fNil)))) (fVar 7) (fVar 1))))))
  (fRet (fVar 1)))
def φ27 : Phi := fDef 1 11 b27
theorem zb27 {G : Gz} {X : Cx} (c : Cz G bs 50 X N27 nm27 (fun _ => true)) : ZB X (defBody (topS 27)) b27 :=
  z_cons2 (z_set c (by decide +kernel) (z_val (z_lst (z_cons (z_dict0) (z_nil)))) (hs := c.sW.trans rfl))
  (z_cons2 (z_for (q := true) c (zi_enum c (z_cons (z_ix c (z_var c (by decide +kernel)) (z_int)) (z_nil))) (zg_tup c (zgs_cons (zg_name c (by decide +kernel)) (zgs_cons (zg_tup c (zgs_cons (zg_name c (by decide +kernel)) (zgs_cons (zg_name c (by decide +kernel)) (zgs_cons (zg_name c (by decide +kernel)) (zgs_cons (zg_name c (by decide +kernel)) (zgs_nil)))))) (zgs_nil)))) (z_cons2 (z_set c (by decide +kernel) (z_new (z_lst (z_nil))) (hs := c.sW.trans rfl))
  (z_cons2 (z_for (q := false) c (zi_seq (z_var c (by decide +kernel))) (zg_name c (by decide +kernel)) (z_sone (z_for (q := false) c (zi_seq (z_if (z_neT c (z_var c (by decide +kernel)) (z_tup (z_nil))) (z_add (z_tup (z_cons (z_var c (by decide +kernel)) (z_nil))) (z_var c (by decide +kernel))) (z_tup (z_nil)))) (zg_name c (by decide +kernel)) (z_cons2 (z_set c (by decide +kernel) (z_dictC c (z_cons (z_var c (by decide +kernel)) (z_nil))) (hs := c.sW.trans rfl))
  (z_cons2 (z_put c (z_var c (by decide +kernel)) (z_var c (by decide +kernel)) (z_var c (by decide +kernel)))
  (z_sone (z_expr (z_append (z_var c (by decide +kernel)) (z_cons (z_var c (by decide +kernel)) (z_nil))) (hs := c.sW.trans rfl))))))))
  (z_sone (z_set c (by decide +kernel) (z_if (z_neT c (z_var c (by decide +kernel)) (z_tup (z_nil))) (z_var c (by decide +kernel)) (z_var c (by decide +kernel))) (hs := c.sW.trans rfl))))))
  (z_sone (z_ret (z_var c (by decide +kernel)))))
/-! ### _law_can -/
def nm28 : List (Str × NameKind) := [("count", .cell), ("placings", .local), ("name", .cell), ("rows", .local), ("placed", .cell), ("_law_rows", .globalImplicit), ("any", .globalImplicit)]
def N28 : List Str := ["count", "placings", "name", "rows", "placed", "one", "row"]
theorem sc28 : FnScope N28 ["count", "placings", "name"] (defScope (topS 28)) := ⟨rfl, rfl, rfl, by decide +kernel, rfl, by decide +kernel, by decide +kernel⟩
def b28 : Fn Ct :=
  fSeq (fSet 3 (fSl (fCall φ25 (fCons (fVal (fLc (fSrc (fBin gIx (fVar 0) (fC (.int 0)))) [5] (gNm 5) (fTest (fBin gNe (fVar 5) (fVar 2))) (fVar 5))) (fNil))) (fPart (fC (.int 1))) (fNoPart)))
  (fSeq (fFor (fSrc (fVar 1)) (gNm 4) (fIfS (fNotT (fTest (fCall gAny (fCons (fVal (fLc (fSrc (fVar 3)) [6] (gNm 6) (fYes) (fCall φ24 (fCons (fVar 0) (fCons (fVar 2) (fCons (fVar 6) (fCons (fVar 4) (fNil)))))))) (fNil))))) (fRet (fC (.bl true))) (fNop)))
  (fRet (fC (.bl false))))
def φ28 : Phi := fDef 3 7 b28
theorem zb28 {G : Gz} {X : Cx} (F25 : Fz G 51 "_law_rows" 1 φ25) (F24 : Fz G 51 "_law_is_barred" 4 φ24) (c : Cz G bs 51 X N28 nm28 (fun _ => true)) : ZB X (defBody (topS 28)) b28 :=
  z_cons2 (z_set c (by decide +kernel) (z_slice (z_call c F25 (z_cons (z_val (z_lc (q := false) c [("one", 5)] (zi_seq (z_ix c (z_var c (by decide +kernel)) (z_int))) (fun Xc1 c1 => ⟨zg_name c1 (by decide +kernel), zts_one (z_neT c1 (z_var c1 (by decide +kernel)) (z_var c1 (by decide +kernel))), z_var c1 (by decide +kernel)⟩))) (z_nil))) (zo_some (z_int)) (zo_none)) (hs := c.sW.trans rfl))
  (z_cons2 (z_for (q := false) c (zi_seq (z_var c (by decide +kernel))) (zg_name c (by decide +kernel)) (z_sone (z_ifS (z_notT (z_valT (z_any c (z_cons (z_val (z_lc (q := false) c [("row", 6)] (zi_seq (z_var c (by decide +kernel))) (fun Xc1 c1 => ⟨zg_name c1 (by decide +kernel), zts_nil, z_call c1 F24 (z_cons (z_var c1 (by decide +kernel)) (z_cons (z_var c1 (by decide +kernel)) (z_cons (z_var c1 (by decide +kernel)) (z_cons (z_var c1 (by decide +kernel)) (z_nil)))))⟩))) (z_nil))))) (z_sone (z_ret (z_bl))) (z_snil))))
  (z_sone (z_ret (z_bl))))
/-! ### _law_near -/
def nm29 : List (Str × NameKind) := [("feed", .local), ("count", .local), ("lots", .local), ("piles", .local), ("doubts", .local), ("many", .local), ("whole", .local), ("sum", .globalImplicit), ("len", .globalImplicit), ("min", .globalImplicit), ("_law_draw", .globalImplicit)]
def N29 : List Str := ["feed", "count", "lots", "piles", "doubts", "many", "whole", "name", "slip", "others"]
theorem sc29 : FnScope N29 ["feed", "count"] (defScope (topS 29)) := ⟨rfl, rfl, rfl, by decide +kernel, rfl, by decide +kernel, by decide +kernel⟩
def b29 : Fn Ct :=
  fSeq (fAsg (fVar 1) (gTp 3 (gsCons (gNm 2) (gsCons (gNm 3) (gsCons (gNm 4) (gsNil))))))
  (fSeq (fSet 6 (fBin gAdd (fCall gSum (fCons (fVal (fLc (fSrc (fVar 3)) [7, 5, 8, 9] (gTp 4 (gsCons (gNm 7) (gsCons (gNm 5) (gsCons (gNm 8) (gsCons (gNm 9) (gsNil)))))) (fYes) (fVar 5))) (fNil))) (fCall gLen (fCons (fVar 4) (fNil)))))
  (fSeq (fSet 5 (fCall (gTwo fun i j => if j < i then j else i) (fCons (fBin gPow (fC (.int 10)) (fC (.int 6))) (fCons (fBin gAdd (fBin gDiv (fVar 6) (fBin gAdd (fC (.int 2)) (fCall φ19 (fCons (fVar 0) (fCons (fC (.int 2)) (fNil)))))) (fCall φ19 (fCons (fVar 0) (fCons (fC (.int 3)) (fNil))))) (fNil)))))
  (fRet (fTup (fCons (fVar 2) (fCons (fBin gAdd (fVar 3) (fTup (fCons (fTup (fCons (fBin gIx (fVar 2) (fCall φ19 (fCons (fVar 0) (fCons (fCall gLen (fCons (fVar 2) (fNil))) (fNil))))) (fCons (fVar 5) (fCons (fC (.int 0)) (fCons (fTup (fNil)) (fNil)))))) (fNil)))) (fCons (fVar 4) (fNil))))))))
def φ29 : Phi := fDef 2 10 b29
theorem zb29 {G : Gz} {X : Cx} (F19 : Fz G 52 "_law_draw" 2 φ19) (c : Cz G bs 52 X N29 nm29 (fun _ => true)) : ZB X (defBody (topS 29)) b29 :=
  z_cons2 (z_asg (z_var c (by decide +kernel)) (zg_tup c (zgs_cons (zg_name c (by decide +kernel)) (zgs_cons (zg_name c (by decide +kernel)) (zgs_cons (zg_name c (by decide +kernel)) (zgs_nil))))))
  (z_cons2 (z_set c (by decide +kernel) (z_add (z_sum c (z_cons (z_val (z_lc (q := false) c [("name", 7), ("many", 5), ("slip", 8), ("others", 9)] (zi_seq (z_var c (by decide +kernel))) (fun Xc1 c1 => ⟨zg_tup c1 (zgs_cons (zg_name c1 (by decide +kernel)) (zgs_cons (zg_name c1 (by decide +kernel)) (zgs_cons (zg_name c1 (by decide +kernel)) (zgs_cons (zg_name c1 (by decide +kernel)) (zgs_nil))))), zts_nil, z_var c1 (by decide +kernel)⟩))) (z_nil))) (z_len c (z_cons (z_var c (by decide +kernel)) (z_nil)))) (hs := c.sW.trans rfl))
  (z_cons2 (z_set c (by decide +kernel) (z_min2 c (z_cons (z_pow (z_int) (z_int)) (z_cons (z_add (z_div (z_var c (by decide +kernel)) (z_add (z_int) (z_call c F19 (z_cons (z_var c (by decide +kernel)) (z_cons (z_int) (z_nil)))))) (z_call c F19 (z_cons (z_var c (by decide +kernel)) (z_cons (z_int) (z_nil))))) (z_nil)))) (hs := c.sW.trans rfl))
  (z_sone (z_ret (z_tup (z_cons (z_var c (by decide +kernel)) (z_cons (z_add (z_var c (by decide +kernel)) (z_tup (z_cons (z_tup (z_cons (z_ix c (z_var c (by decide +kernel)) (z_call c F19 (z_cons (z_var c (by decide +kernel)) (z_cons (z_len c (z_cons (z_var c (by decide +kernel)) (z_nil))) (z_nil))))) (z_cons (z_var c (by decide +kernel)) (z_cons (z_int) (z_cons (z_tup (z_nil)) (z_nil)))))) (z_nil)))) (z_cons (z_var c (by decide +kernel)) (z_nil)))))))))
/-! ### law -/
def nm30 : List (Str × NameKind) := [("script", .local), ("feed", .local), ("some", .cell), ("kept", .local), ("k", .cell), ("placings", .cell), ("due", .local), ("_law_feed", .globalImplicit), ("_law_count", .globalImplicit), ("_law_near", .globalImplicit), ("repr", .globalImplicit), ("_law_placings", .globalImplicit), ("tuple", .globalImplicit), ("_law_alike", .globalImplicit), ("firsts", .globalImplicit)]
def N30 : List Str := ["script", "feed", "some", "kept", "k", "placings", "due", "name"]
theorem sc30 : FnScope N30 ["script"] (defScope (topS 30)) := ⟨rfl, rfl, rfl, by decide +kernel, rfl, by decide +kernel, by decide +kernel⟩
def b30 : Fn Ct :=
  fSeq (fSet 1 (fCall φ18 (fCons (fVar 0) (fNil))))
  (fSeq (fSet 2 (fVal (fLst (fCons (fCall φ22 (fCons (fVar 1) (fCons (fC (.int 0)) (fNil)))) (fNil)))))
  (fSeq (fSet 2 (fVal (fCatL (fVar 2) (fVal (fLst (fCons (fCall φ29 (fCons (fVar 1) (fCons (fBin gIx (fVar 2) (fC (.int 0))) (fNil)))) (fCons (fCall φ29 (fCons (fVar 1) (fCons (fBin gIx (fVar 2) (fC (.int 0))) (fNil)))) (fNil))))))))
  (fSeq (fSet 3 (fCall gRepr (fCons (fVar 2) (fNil))))
  (fSeq (fFor (fSrc (fTup (fCons (fC (.int 0)) (fCons (fC (.int 1)) (fCons (fC (.int 2)) (fCons (fC (.int 0)) (fNil))))))) (gNm 4) (fSeq (fSet 5 (fCall φ27 (fCons (fBin gIx (fVar 2) (fVar 4)) (fNil))))
  (fSeq (fSet 6 (fCall gTuple (fCons (fVal (fLc (fSrc (fBin gIx (fBin gIx (fVar 2) (fVar 4)) (fC (.int 0)))) [7] (gNm 7) (fTest (fCall φ28 (fCons (fBin gIx (fVar 2) (fVar 4)) (fCons (fVar 5) (fCons (fVar 7) (fNil)))))) (fVar 7))) (fNil))))
  (fIfS (fOrT (fNotT (fTest (fCall φ26 (fCons (fCall φ16 (fCons (fBin gIx (fVar 2) (fVar 4)) (fNil))) (fCons (fVar 6) (fNil)))))) (fTest (fBin gNe (fCall gRepr (fCons (fVar 2) (fNil))) (fVar 3)))) (fRet (fC (.bl false))) (fNop)))))
  (fRet (fC (.bl true)))))))
def φ30 : Phi := fDef 1 8 b30
theorem zb30 {G : Gz} {X : Cx} (F18 : Fz G 53 "_law_feed" 1 φ18) (F22 : Fz G 53 "_law_count" 2 φ22) (F29 : Fz G 53 "_law_near" 2 φ29) (F27 : Fz G 53 "_law_placings" 1 φ27) (F28 : Fz G 53 "_law_can" 3 φ28) (F26 : Fz G 53 "_law_alike" 2 φ26) (F16 : Fz G 53 "firsts" 1 φ16) (c : Cz G bs 53 X N30 nm30 (fun _ => true)) : ZB X (defBody (topS 30)) b30 :=
  z_cons2 (z_set c (by decide +kernel) (z_call c F18 (z_cons (z_var c (by decide +kernel)) (z_nil))) (hs := c.sW.trans rfl))
  (z_cons2 (z_set c (by decide +kernel) (z_val (z_lst (z_cons (z_call c F22 (z_cons (z_var c (by decide +kernel)) (z_cons (z_int) (z_nil)))) (z_nil)))) (hs := c.sW.trans rfl))
  (z_cons2 (z_set c (by decide +kernel) (z_val (z_catL (z_var c (by decide +kernel)) (z_val (z_lst (z_cons (z_call c F29 (z_cons (z_var c (by decide +kernel)) (z_cons (z_ix c (z_var c (by decide +kernel)) (z_int)) (z_nil)))) (z_cons (z_call c F29 (z_cons (z_var c (by decide +kernel)) (z_cons (z_ix c (z_var c (by decide +kernel)) (z_int)) (z_nil)))) (z_nil))))))) (hs := c.sW.trans rfl))
  (z_cons2 (z_set c (by decide +kernel) (z_repr c (z_cons (z_var c (by decide +kernel)) (z_nil))) (hs := c.sW.trans rfl))
  (z_cons2 (z_for (q := false) c (zi_seq (z_tup (z_cons (z_int) (z_cons (z_int) (z_cons (z_int) (z_cons (z_int) (z_nil))))))) (zg_name c (by decide +kernel)) (z_cons2 (z_set c (by decide +kernel) (z_call c F27 (z_cons (z_ix c (z_var c (by decide +kernel)) (z_var c (by decide +kernel))) (z_nil))) (hs := c.sW.trans rfl))
  (z_cons2 (z_set c (by decide +kernel) (z_tuple c (z_cons (z_val (z_lc (q := false) c [("name", 7)] (zi_seq (z_ix c (z_ix c (z_var c (by decide +kernel)) (z_var c (by decide +kernel))) (z_int))) (fun Xc1 c1 => ⟨zg_name c1 (by decide +kernel), zts_one (z_valT (z_call c1 F28 (z_cons (z_ix c1 (z_var c1 (by decide +kernel)) (z_var c1 (by decide +kernel))) (z_cons (z_var c1 (by decide +kernel)) (z_cons (z_var c1 (by decide +kernel)) (z_nil)))))), z_var c1 (by decide +kernel)⟩))) (z_nil))) (hs := c.sW.trans rfl))
  (z_sone (z_ifS (z_wT (w_or (z_notT (z_valT (z_call c F26 (z_cons (z_call c F16 (z_cons (z_ix c (z_var c (by decide +kernel)) (z_var c (by decide +kernel))) (z_nil))) (z_cons (z_var c (by decide +kernel)) (z_nil)))))) (w_or1 (z_neT c (z_repr c (z_cons (z_var c (by decide +kernel)) (z_nil))) (z_var c (by decide +kernel)))))) (z_sone (z_ret (z_bl))) (z_snil))))))
  (z_sone (z_ret (z_bl)))))))
/-! ### what the top has written -/
theorem all_mk {l : PySem.W.OpenLaw} {w : World} {K : PySem.W.Frag} {h : Heap} {mg : Str → Option Value} {fa : Addr} (X : K.In h) (G : h.Ns mainGlobals mg) (hfa : mg "law" = some (.ref fa))
    {f1 : Addr} {od1 an1 : Option Addr} {sl1 : Array (Option Value)} {oc1 kV1 dc1 pm1 cd1 ct1 : Value}
    (a1 : PySem.W.nsIn K mainGlobals "least_number" = some (some (.ref f1))) (l1 : K.lookup f1 = some ⟨oc1, od1, .func (PySem.W.fnOf "least_number" "least_number" (defArgs (topS 1)) (defBody (topS 1)) (defScope (topS 1)) .none kV1 dc1 pm1 an1 cd1 ct1), sl1⟩) (c1 : PySem.W.codeIn K cd1 "least_number" = true) (k1 : PySem.W.keepIn K (.ref f1) = true)
    {f2 : Addr} {od2 an2 : Option Addr} {sl2 : Array (Option Value)} {oc2 kV2 dc2 pm2 cd2 ct2 : Value}
    (a2 : PySem.W.nsIn K mainGlobals "pile_names" = some (some (.ref f2))) (l2 : K.lookup f2 = some ⟨oc2, od2, .func (PySem.W.fnOf "pile_names" "pile_names" (defArgs (topS 2)) (defBody (topS 2)) (defScope (topS 2)) .none kV2 dc2 pm2 an2 cd2 ct2), sl2⟩) (c2 : PySem.W.codeIn K cd2 "pile_names" = true) (k2 : PySem.W.keepIn K (.ref f2) = true)
    {f4 : Addr} {od4 an4 : Option Addr} {sl4 : Array (Option Value)} {oc4 kV4 dc4 pm4 cd4 ct4 : Value}
    (a4 : PySem.W.nsIn K mainGlobals "names_at" = some (some (.ref f4))) (l4 : K.lookup f4 = some ⟨oc4, od4, .func (PySem.W.fnOf "names_at" "names_at" (defArgs (topS 4)) (defBody (topS 4)) (defScope (topS 4)) .none kV4 dc4 pm4 an4 cd4 ct4), sl4⟩) (c4 : PySem.W.codeIn K cd4 "names_at" = true) (k4 : PySem.W.keepIn K (.ref f4) = true)
    {f5 : Addr} {od5 an5 : Option Addr} {sl5 : Array (Option Value)} {oc5 kV5 dc5 pm5 cd5 ct5 : Value}
    (a5 : PySem.W.nsIn K mainGlobals "greatest_for" = some (some (.ref f5))) (l5 : K.lookup f5 = some ⟨oc5, od5, .func (PySem.W.fnOf "greatest_for" "greatest_for" (defArgs (topS 5)) (defBody (topS 5)) (defScope (topS 5)) .none kV5 dc5 pm5 an5 cd5 ct5), sl5⟩) (c5 : PySem.W.codeIn K cd5 "greatest_for" = true) (k5 : PySem.W.keepIn K (.ref f5) = true)
    {f6 : Addr} {od6 an6 : Option Addr} {sl6 : Array (Option Value)} {oc6 kV6 dc6 pm6 cd6 ct6 : Value}
    (a6 : PySem.W.nsIn K mainGlobals "is_among" = some (some (.ref f6))) (l6 : K.lookup f6 = some ⟨oc6, od6, .func (PySem.W.fnOf "is_among" "is_among" (defArgs (topS 6)) (defBody (topS 6)) (defScope (topS 6)) .none kV6 dc6 pm6 an6 cd6 ct6), sl6⟩) (c6 : PySem.W.codeIn K cd6 "is_among" = true) (k6 : PySem.W.keepIn K (.ref f6) = true)
    {f7 : Addr} {od7 an7 : Option Addr} {sl7 : Array (Option Value)} {oc7 kV7 dc7 pm7 cd7 ct7 : Value}
    (a7 : PySem.W.nsIn K mainGlobals "had_by" = some (some (.ref f7))) (l7 : K.lookup f7 = some ⟨oc7, od7, .func (PySem.W.fnOf "had_by" "had_by" (defArgs (topS 7)) (defBody (topS 7)) (defScope (topS 7)) .none kV7 dc7 pm7 an7 cd7 ct7), sl7⟩) (c7 : PySem.W.codeIn K cd7 "had_by" = true) (k7 : PySem.W.keepIn K (.ref f7) = true)
    {f8 : Addr} {od8 an8 : Option Addr} {sl8 : Array (Option Value)} {oc8 kV8 dc8 pm8 cd8 ct8 : Value}
    (a8 : PySem.W.nsIn K mainGlobals "room_of" = some (some (.ref f8))) (l8 : K.lookup f8 = some ⟨oc8, od8, .func (PySem.W.fnOf "room_of" "room_of" (defArgs (topS 8)) (defBody (topS 8)) (defScope (topS 8)) .none kV8 dc8 pm8 an8 cd8 ct8), sl8⟩) (c8 : PySem.W.codeIn K cd8 "room_of" = true) (k8 : PySem.W.keepIn K (.ref f8) = true)
    {f9 : Addr} {od9 an9 : Option Addr} {sl9 : Array (Option Value)} {oc9 kV9 dc9 pm9 cd9 ct9 : Value}
    (a9 : PySem.W.nsIn K mainGlobals "is_barred" = some (some (.ref f9))) (l9 : K.lookup f9 = some ⟨oc9, od9, .func (PySem.W.fnOf "is_barred" "is_barred" (defArgs (topS 9)) (defBody (topS 9)) (defScope (topS 9)) .none kV9 dc9 pm9 an9 cd9 ct9), sl9⟩) (c9 : PySem.W.codeIn K cd9 "is_barred" = true) (k9 : PySem.W.keepIn K (.ref f9) = true)
    {f11 : Addr} {od11 an11 : Option Addr} {sl11 : Array (Option Value)} {oc11 kV11 dc11 pm11 cd11 ct11 : Value}
    (a11 : PySem.W.nsIn K mainGlobals "rising_rows" = some (some (.ref f11))) (l11 : K.lookup f11 = some ⟨oc11, od11, .func (PySem.W.fnOf "rising_rows" "rising_rows" (defArgs (topS 11)) (defBody (topS 11)) (defScope (topS 11)) .none kV11 dc11 pm11 an11 cd11 ct11), sl11⟩) (c11 : PySem.W.codeIn K cd11 "rising_rows" = true) (k11 : PySem.W.keepIn K (.ref f11) = true)
    {f12 : Addr} {od12 an12 : Option Addr} {sl12 : Array (Option Value)} {oc12 kV12 dc12 pm12 cd12 ct12 : Value}
    (a12 : PySem.W.nsIn K mainGlobals "bar_at" = some (some (.ref f12))) (l12 : K.lookup f12 = some ⟨oc12, od12, .func (PySem.W.fnOf "bar_at" "bar_at" (defArgs (topS 12)) (defBody (topS 12)) (defScope (topS 12)) .none kV12 dc12 pm12 an12 cd12 ct12), sl12⟩) (c12 : PySem.W.codeIn K cd12 "bar_at" = true) (k12 : PySem.W.keepIn K (.ref f12) = true)
    {f13 : Addr} {od13 an13 : Option Addr} {sl13 : Array (Option Value)} {oc13 kV13 dc13 pm13 cd13 ct13 : Value}
    (a13 : PySem.W.nsIn K mainGlobals "seat_doubt" = some (some (.ref f13))) (l13 : K.lookup f13 = some ⟨oc13, od13, .func (PySem.W.fnOf "seat_doubt" "seat_doubt" (defArgs (topS 13)) (defBody (topS 13)) (defScope (topS 13)) .none kV13 dc13 pm13 an13 cd13 ct13), sl13⟩) (c13 : PySem.W.codeIn K cd13 "seat_doubt" = true) (k13 : PySem.W.keepIn K (.ref f13) = true)
    {f14 : Addr} {od14 an14 : Option Addr} {sl14 : Array (Option Value)} {oc14 kV14 dc14 pm14 cd14 ct14 : Value}
    (a14 : PySem.W.nsIn K mainGlobals "end_of" = some (some (.ref f14))) (l14 : K.lookup f14 = some ⟨oc14, od14, .func (PySem.W.fnOf "end_of" "end_of" (defArgs (topS 14)) (defBody (topS 14)) (defScope (topS 14)) .none kV14 dc14 pm14 an14 cd14 ct14), sl14⟩) (c14 : PySem.W.codeIn K cd14 "end_of" = true) (k14 : PySem.W.keepIn K (.ref f14) = true)
    {f15 : Addr} {od15 an15 : Option Addr} {sl15 : Array (Option Value)} {oc15 kV15 dc15 pm15 cd15 ct15 : Value}
    (a15 : PySem.W.nsIn K mainGlobals "searched" = some (some (.ref f15))) (l15 : K.lookup f15 = some ⟨oc15, od15, .func (PySem.W.fnOf "searched" "searched" (defArgs (topS 15)) (defBody (topS 15)) (defScope (topS 15)) .none kV15 dc15 pm15 an15 cd15 ct15), sl15⟩) (c15 : PySem.W.codeIn K cd15 "searched" = true) (k15 : PySem.W.keepIn K (.ref f15) = true)
    {f16 : Addr} {od16 an16 : Option Addr} {sl16 : Array (Option Value)} {oc16 kV16 dc16 pm16 cd16 ct16 : Value}
    (a16 : PySem.W.nsIn K mainGlobals "firsts" = some (some (.ref f16))) (l16 : K.lookup f16 = some ⟨oc16, od16, .func (PySem.W.fnOf "firsts" "firsts" (defArgs (topS 16)) (defBody (topS 16)) (defScope (topS 16)) .none kV16 dc16 pm16 an16 cd16 ct16), sl16⟩) (c16 : PySem.W.codeIn K cd16 "firsts" = true) (k16 : PySem.W.keepIn K (.ref f16) = true)
    {f18 : Addr} {od18 an18 : Option Addr} {sl18 : Array (Option Value)} {oc18 kV18 dc18 pm18 cd18 ct18 : Value}
    (a18 : PySem.W.nsIn K mainGlobals "_law_feed" = some (some (.ref f18))) (l18 : K.lookup f18 = some ⟨oc18, od18, .func (PySem.W.fnOf "_law_feed" "_law_feed" (defArgs (topS 18)) (defBody (topS 18)) (defScope (topS 18)) .none kV18 dc18 pm18 an18 cd18 ct18), sl18⟩) (c18 : PySem.W.codeIn K cd18 "_law_feed" = true) (k18 : PySem.W.keepIn K (.ref f18) = true)
    {f19 : Addr} {od19 an19 : Option Addr} {sl19 : Array (Option Value)} {oc19 kV19 dc19 pm19 cd19 ct19 : Value}
    (a19 : PySem.W.nsIn K mainGlobals "_law_draw" = some (some (.ref f19))) (l19 : K.lookup f19 = some ⟨oc19, od19, .func (PySem.W.fnOf "_law_draw" "_law_draw" (defArgs (topS 19)) (defBody (topS 19)) (defScope (topS 19)) .none kV19 dc19 pm19 an19 cd19 ct19), sl19⟩) (c19 : PySem.W.codeIn K cd19 "_law_draw" = true) (k19 : PySem.W.keepIn K (.ref f19) = true)
    {f20 : Addr} {od20 an20 : Option Addr} {sl20 : Array (Option Value)} {oc20 kV20 dc20 pm20 cd20 ct20 : Value}
    (a20 : PySem.W.nsIn K mainGlobals "_law_lots" = some (some (.ref f20))) (l20 : K.lookup f20 = some ⟨oc20, od20, .func (PySem.W.fnOf "_law_lots" "_law_lots" (defArgs (topS 20)) (defBody (topS 20)) (defScope (topS 20)) .none kV20 dc20 pm20 an20 cd20 ct20), sl20⟩) (c20 : PySem.W.codeIn K cd20 "_law_lots" = true) (k20 : PySem.W.keepIn K (.ref f20) = true)
    {f21 : Addr} {od21 an21 : Option Addr} {sl21 : Array (Option Value)} {oc21 kV21 dc21 pm21 cd21 ct21 : Value}
    (a21 : PySem.W.nsIn K mainGlobals "_law_some" = some (some (.ref f21))) (l21 : K.lookup f21 = some ⟨oc21, od21, .func (PySem.W.fnOf "_law_some" "_law_some" (defArgs (topS 21)) (defBody (topS 21)) (defScope (topS 21)) .none kV21 dc21 pm21 an21 cd21 ct21), sl21⟩) (c21 : PySem.W.codeIn K cd21 "_law_some" = true) (k21 : PySem.W.keepIn K (.ref f21) = true)
    {f22 : Addr} {od22 an22 : Option Addr} {sl22 : Array (Option Value)} {oc22 kV22 dc22 pm22 cd22 ct22 : Value}
    (a22 : PySem.W.nsIn K mainGlobals "_law_count" = some (some (.ref f22))) (l22 : K.lookup f22 = some ⟨oc22, od22, .func (PySem.W.fnOf "_law_count" "_law_count" (defArgs (topS 22)) (defBody (topS 22)) (defScope (topS 22)) .none kV22 dc22 pm22 an22 cd22 ct22), sl22⟩) (c22 : PySem.W.codeIn K cd22 "_law_count" = true) (k22 : PySem.W.keepIn K (.ref f22) = true)
    {f23 : Addr} {od23 an23 : Option Addr} {sl23 : Array (Option Value)} {oc23 kV23 dc23 pm23 cd23 ct23 : Value}
    (a23 : PySem.W.nsIn K mainGlobals "_law_under" = some (some (.ref f23))) (l23 : K.lookup f23 = some ⟨oc23, od23, .func (PySem.W.fnOf "_law_under" "_law_under" (defArgs (topS 23)) (defBody (topS 23)) (defScope (topS 23)) .none kV23 dc23 pm23 an23 cd23 ct23), sl23⟩) (c23 : PySem.W.codeIn K cd23 "_law_under" = true) (k23 : PySem.W.keepIn K (.ref f23) = true)
    {f24 : Addr} {od24 an24 : Option Addr} {sl24 : Array (Option Value)} {oc24 kV24 dc24 pm24 cd24 ct24 : Value}
    (a24 : PySem.W.nsIn K mainGlobals "_law_is_barred" = some (some (.ref f24))) (l24 : K.lookup f24 = some ⟨oc24, od24, .func (PySem.W.fnOf "_law_is_barred" "_law_is_barred" (defArgs (topS 24)) (defBody (topS 24)) (defScope (topS 24)) .none kV24 dc24 pm24 an24 cd24 ct24), sl24⟩) (c24 : PySem.W.codeIn K cd24 "_law_is_barred" = true) (k24 : PySem.W.keepIn K (.ref f24) = true)
    {f25 : Addr} {od25 an25 : Option Addr} {sl25 : Array (Option Value)} {oc25 kV25 dc25 pm25 cd25 ct25 : Value}
    (a25 : PySem.W.nsIn K mainGlobals "_law_rows" = some (some (.ref f25))) (l25 : K.lookup f25 = some ⟨oc25, od25, .func (PySem.W.fnOf "_law_rows" "_law_rows" (defArgs (topS 25)) (defBody (topS 25)) (defScope (topS 25)) .none kV25 dc25 pm25 an25 cd25 ct25), sl25⟩) (c25 : PySem.W.codeIn K cd25 "_law_rows" = true) (k25 : PySem.W.keepIn K (.ref f25) = true)
    {f26 : Addr} {od26 an26 : Option Addr} {sl26 : Array (Option Value)} {oc26 kV26 dc26 pm26 cd26 ct26 : Value}
    (a26 : PySem.W.nsIn K mainGlobals "_law_alike" = some (some (.ref f26))) (l26 : K.lookup f26 = some ⟨oc26, od26, .func (PySem.W.fnOf "_law_alike" "_law_alike" (defArgs (topS 26)) (defBody (topS 26)) (defScope (topS 26)) .none kV26 dc26 pm26 an26 cd26 ct26), sl26⟩) (c26 : PySem.W.codeIn K cd26 "_law_alike" = true) (k26 : PySem.W.keepIn K (.ref f26) = true)
    {f27 : Addr} {od27 an27 : Option Addr} {sl27 : Array (Option Value)} {oc27 kV27 dc27 pm27 cd27 ct27 : Value}
    (a27 : PySem.W.nsIn K mainGlobals "_law_placings" = some (some (.ref f27))) (l27 : K.lookup f27 = some ⟨oc27, od27, .func (PySem.W.fnOf "_law_placings" "_law_placings" (defArgs (topS 27)) (defBody (topS 27)) (defScope (topS 27)) .none kV27 dc27 pm27 an27 cd27 ct27), sl27⟩) (c27 : PySem.W.codeIn K cd27 "_law_placings" = true) (k27 : PySem.W.keepIn K (.ref f27) = true)
    {f28 : Addr} {od28 an28 : Option Addr} {sl28 : Array (Option Value)} {oc28 kV28 dc28 pm28 cd28 ct28 : Value}
    (a28 : PySem.W.nsIn K mainGlobals "_law_can" = some (some (.ref f28))) (l28 : K.lookup f28 = some ⟨oc28, od28, .func (PySem.W.fnOf "_law_can" "_law_can" (defArgs (topS 28)) (defBody (topS 28)) (defScope (topS 28)) .none kV28 dc28 pm28 an28 cd28 ct28), sl28⟩) (c28 : PySem.W.codeIn K cd28 "_law_can" = true) (k28 : PySem.W.keepIn K (.ref f28) = true)
    {f29 : Addr} {od29 an29 : Option Addr} {sl29 : Array (Option Value)} {oc29 kV29 dc29 pm29 cd29 ct29 : Value}
    (a29 : PySem.W.nsIn K mainGlobals "_law_near" = some (some (.ref f29))) (l29 : K.lookup f29 = some ⟨oc29, od29, .func (PySem.W.fnOf "_law_near" "_law_near" (defArgs (topS 29)) (defBody (topS 29)) (defScope (topS 29)) .none kV29 dc29 pm29 an29 cd29 ct29), sl29⟩) (c29 : PySem.W.codeIn K cd29 "_law_near" = true) (k29 : PySem.W.keepIn K (.ref f29) = true)
    {f30 : Addr} {od30 an30 : Option Addr} {sl30 : Array (Option Value)} {oc30 kV30 dc30 pm30 cd30 ct30 : Value}
    (a30 : PySem.W.nsIn K mainGlobals "law" = some (some (.ref f30))) (l30 : K.lookup f30 = some ⟨oc30, od30, .func (PySem.W.fnOf "law" "law" (defArgs (topS 30)) (defBody (topS 30)) (defScope (topS 30)) .none kV30 dc30 pm30 an30 cd30 ct30), sl30⟩) (c30 : PySem.W.codeIn K cd30 "law" = true) (k30 : PySem.W.keepIn K (.ref f30) = true)
    (z0 : PySem.W.nsIn K mainGlobals "max" = some none) (z1 : PySem.W.nsIn K mainGlobals "len" = some none) (z2 : PySem.W.nsIn K mainGlobals "enumerate" = some none) (z3 : PySem.W.nsIn K mainGlobals "all" = some none) (z4 : PySem.W.nsIn K mainGlobals "int" = some none) (z5 : PySem.W.nsIn K mainGlobals "sum" = some none) (z6 : PySem.W.nsIn K mainGlobals "sorted" = some none) (z7 : PySem.W.nsIn K mainGlobals "dict" = some none) (z8 : PySem.W.nsIn K mainGlobals "tuple" = some none) (z9 : PySem.W.nsIn K mainGlobals "range" = some none) (z10 : PySem.W.nsIn K mainGlobals "list" = some none) (z11 : PySem.W.nsIn K mainGlobals "min" = some none) (z12 : PySem.W.nsIn K mainGlobals "isinstance" = some none) (z13 : PySem.W.nsIn K mainGlobals "zip" = some none) (z14 : PySem.W.nsIn K mainGlobals "bool" = some none) (z15 : PySem.W.nsIn K mainGlobals "str" = some none) (z16 : PySem.W.nsIn K mainGlobals "any" = some none) (z17 : PySem.W.nsIn K mainGlobals "repr" = some none) :
    ∃ fd : FuncData, (∀ (s : Shared) (v : Value), BindsTo s fd ⟨[v], []⟩ [("script", v)]) ∧ (∀ y ∈ tabN, ∀ c P, PySem.W.tabIn K y = some (c, P) → K.lookup P = none) ∧ ∀ base : Heap, K.In base → base.Ns mainGlobals mg → TabsB K mg base → FnZ ⟨l.prog, w, K, mg, base⟩ 54 fa fd ["script"] (spZ K 1 φ30) := by
  have e := hfa.symm.trans (PySem.W.mg_of X G a30)
  cases e
  have U1 := fun_mk (st := topS 1) l1 c1 k1
  have U2 := fun_mk (st := topS 2) l2 c2 k2
  have U4 := fun_mk (st := topS 4) l4 c4 k4
  have U5 := fun_mk (st := topS 5) l5 c5 k5
  have U6 := fun_mk (st := topS 6) l6 c6 k6
  have U7 := fun_mk (st := topS 7) l7 c7 k7
  have U8 := fun_mk (st := topS 8) l8 c8 k8
  have U9 := fun_mk (st := topS 9) l9 c9 k9
  have U11 := fun_mk (st := topS 11) l11 c11 k11
  have U12 := fun_mk (st := topS 12) l12 c12 k12
  have U13 := fun_mk (st := topS 13) l13 c13 k13
  have U14 := fun_mk (st := topS 14) l14 c14 k14
  have U15 := fun_mk (st := topS 15) l15 c15 k15
  have U16 := fun_mk (st := topS 16) l16 c16 k16
  have U18 := fun_mk (st := topS 18) l18 c18 k18
  have U19 := fun_mk (st := topS 19) l19 c19 k19
  have U20 := fun_mk (st := topS 20) l20 c20 k20
  have U21 := fun_mk (st := topS 21) l21 c21 k21
  have U22 := fun_mk (st := topS 22) l22 c22 k22
  have U23 := fun_mk (st := topS 23) l23 c23 k23
  have U24 := fun_mk (st := topS 24) l24 c24 k24
  have U25 := fun_mk (st := topS 25) l25 c25 k25
  have U26 := fun_mk (st := topS 26) l26 c26 k26
  have U27 := fun_mk (st := topS 27) l27 c27 k27
  have U28 := fun_mk (st := topS 28) l28 c28 k28
  have U29 := fun_mk (st := topS 29) l29 c29 k29
  have U30 := fun_mk (st := topS 30) l30 c30 k30
  refine ⟨PySem.W.fnOf "law" "law" (defArgs (topS 30)) (defBody (topS 30)) (defScope (topS 30)) .none kV30 dc30 pm30 an30 cd30 ct30, fun s v => .of_eq rfl, ?tabs, fun base _ _ TB => ?_⟩
  case tabs =>
    intro y hy c P e
    simp only [tabN, List.mem_cons, List.not_mem_nil, or_false] at hy
  have hbl : ∀ y ∈ bs, mg y = none := fun y hy => by
    simp only [bs, List.mem_cons, List.not_mem_nil, or_false] at hy
    rcases hy with rfl | rfl | rfl | rfl | rfl | rfl | rfl | rfl | rfl | rfl | rfl | rfl | rfl | rfl | rfl | rfl | rfl | rfl
    · exact PySem.W.mg_none_of X G z0
    · exact PySem.W.mg_none_of X G z1
    · exact PySem.W.mg_none_of X G z2
    · exact PySem.W.mg_none_of X G z3
    · exact PySem.W.mg_none_of X G z4
    · exact PySem.W.mg_none_of X G z5
    · exact PySem.W.mg_none_of X G z6
    · exact PySem.W.mg_none_of X G z7
    · exact PySem.W.mg_none_of X G z8
    · exact PySem.W.mg_none_of X G z9
    · exact PySem.W.mg_none_of X G z10
    · exact PySem.W.mg_none_of X G z11
    · exact PySem.W.mg_none_of X G z12
    · exact PySem.W.mg_none_of X G z13
    · exact PySem.W.mg_none_of X G z14
    · exact PySem.W.mg_none_of X G z15
    · exact PySem.W.mg_none_of X G z16
    · exact PySem.W.mg_none_of X G z17
  have F1 : Fz ⟨l.prog, w, K, mg, base⟩ 2 "least_number" 1 φ1 := fz_mk (bs := bs) (k := 1) U1 (PySem.W.mg_of X G a1) (U1.binds (ps := ["pile"]) fun _ _ _ _ _ _ us hl => match us, hl with | [_], _ => rfl) rfl sc1 rfl hbl fun X c => zb1  c
  have F2 : Fz ⟨l.prog, w, K, mg, base⟩ 3 "pile_names" 1 φ2 := fz_mk (bs := bs) (k := 2) U2 (PySem.W.mg_of X G a2) (U2.binds (ps := ["pile"]) fun _ _ _ _ _ _ us hl => match us, hl with | [_], _ => rfl) rfl sc2 rfl hbl fun X c => zb2  c
  have F4 : Fz ⟨l.prog, w, K, mg, base⟩ 5 "names_at" 3 φ4 := fz_mk (bs := bs) (k := 4) U4 (PySem.W.mg_of X G a4) (U4.binds (ps := ["count", "placed", "pile"]) fun _ _ _ _ _ _ us hl => match us, hl with | [_, _, _], _ => rfl) rfl sc4 rfl hbl fun X c => zb4  (F2.mono (by decide)) c
  have F5 : Fz ⟨l.prog, w, K, mg, base⟩ 6 "greatest_for" 3 φ5 := fz_mk (bs := bs) (k := 5) U5 (PySem.W.mg_of X G a5) (U5.binds (ps := ["count", "name", "placed"]) fun _ _ _ _ _ _ us hl => match us, hl with | [_, _, _], _ => rfl) rfl sc5 rfl hbl fun X c => zb5  (F4.mono (by decide)) c
  have F6 : Fz ⟨l.prog, w, K, mg, base⟩ 7 "is_among" 2 φ6 := fz_mk (bs := bs) (k := 6) U6 (PySem.W.mg_of X G a6) (U6.binds (ps := ["some", "names"]) fun _ _ _ _ _ _ us hl => match us, hl with | [_, _], _ => rfl) rfl sc6 rfl hbl fun X c => zb6  c
  have F7 : Fz ⟨l.prog, w, K, mg, base⟩ 8 "had_by" 3 φ7 := fz_mk (bs := bs) (k := 7) U7 (PySem.W.mg_of X G a7) (U7.binds (ps := ["count", "names", "placed"]) fun _ _ _ _ _ _ us hl => match us, hl with | [_, _, _], _ => rfl) rfl sc7 rfl hbl fun X c => zb7  (F6.mono (by decide)) (F4.mono (by decide)) (F1.mono (by decide)) c
  have F8 : Fz ⟨l.prog, w, K, mg, base⟩ 9 "room_of" 4 φ8 := fz_mk (bs := bs) (k := 8) U8 (PySem.W.mg_of X G a8) (U8.binds (ps := ["count", "name", "greatest", "other"]) fun _ _ _ _ _ _ us hl => match us, hl with | [_, _, _, _], _ => rfl) rfl sc8 rfl hbl fun X c => zb8  c
  have F9 : Fz ⟨l.prog, w, K, mg, base⟩ 10 "is_barred" 4 φ9 := fz_mk (bs := bs) (k := 9) U9 (PySem.W.mg_of X G a9) (U9.binds (ps := ["count", "name", "names", "placed"]) fun _ _ _ _ _ _ us hl => match us, hl with | [_, _, _, _], _ => rfl) rfl sc9 rfl hbl fun X c => zb9  (F5.mono (by decide)) (F8.mono (by decide)) (F7.mono (by decide)) c
  have F11 : Fz ⟨l.prog, w, K, mg, base⟩ 12 "rising_rows" 1 φ11 := fz_mk (bs := bs) (k := 11) U11 (PySem.W.mg_of X G a11) (U11.binds (ps := ["names"]) fun _ _ _ _ _ _ us hl => match us, hl with | [_], _ => rfl) rfl sc11 rfl hbl fun X c => zb11  c
  have F12 : Fz ⟨l.prog, w, K, mg, base⟩ 13 "bar_at" 3 φ12 := fz_mk (bs := bs) (k := 12) U12 (PySem.W.mg_of X G a12) (U12.binds (ps := ["count", "name", "placed"]) fun _ _ _ _ _ _ us hl => match us, hl with | [_, _, _], _ => rfl) rfl sc12 rfl hbl fun X c => zb12  (F11.mono (by decide)) (F9.mono (by decide)) c
  have F13 : Fz ⟨l.prog, w, K, mg, base⟩ 21 "seat_doubt" 5 φ13 := fz_rec (bs := bs) (k0 := 13) U13 (PySem.W.mg_of X G a13) (U13.binds (ps := ["count", "doubt", "free", "given", "tried"]) fun _ _ _ _ _ _ us hl => match us, hl with | [_, _, _, _, _], _ => rfl) rfl sc13 rfl hbl (fun κ ψ hκ Fr X c => zb13  Fr c) 8
  have F14 : Fz ⟨l.prog, w, K, mg, base⟩ 22 "end_of" 3 φ14 := fz_mk (bs := bs) (k := 21) U14 (PySem.W.mg_of X G a14) (U14.binds (ps := ["count", "name", "placed"]) fun _ _ _ _ _ _ us hl => match us, hl with | [_, _, _], _ => rfl) rfl sc14 rfl hbl fun X c => zb14  (F5.mono (by decide)) (F8.mono (by decide)) (F1.mono (by decide)) (F13.mono (by decide)) c
  have F15 : Fz ⟨l.prog, w, K, mg, base⟩ 34 "searched" 3 φ15 := fz_rec (bs := bs) (k0 := 22) U15 (PySem.W.mg_of X G a15) (U15.binds (ps := ["count", "name", "placed"]) fun _ _ _ _ _ _ us hl => match us, hl with | [_, _, _], _ => rfl) rfl sc15 rfl hbl (fun κ ψ hκ Fr X c => zb15  (F12.mono (Nat.le_trans (by decide) hκ)) (F14.mono (Nat.le_trans (by decide) hκ)) Fr c) 12
  have F16 : Fz ⟨l.prog, w, K, mg, base⟩ 35 "firsts" 1 φ16 := fz_mk (bs := bs) (k := 34) U16 (PySem.W.mg_of X G a16) (U16.binds (ps := ["count"]) fun _ _ _ _ _ _ us hl => match us, hl with | [_], _ => rfl) rfl sc16 rfl hbl fun X c => zb16  (F15.mono (by decide)) c
  have F18 : Fz ⟨l.prog, w, K, mg, base⟩ 37 "_law_feed" 1 φ18 := fz_mkN (bs := bs) (k := 36) U18 (PySem.W.mg_of X G a18) (U18.binds (ps := ["script"]) fun _ _ _ _ _ _ us hl => match us, hl with | [_], _ => rfl) rfl sc18 rfl hbl fun X c => zb18  c
  have F19 : Fz ⟨l.prog, w, K, mg, base⟩ 38 "_law_draw" 2 φ19 := fz_mk (bs := bs) (k := 37) U19 (PySem.W.mg_of X G a19) (U19.binds (ps := ["feed", "many"]) fun _ _ _ _ _ _ us hl => match us, hl with | [_, _], _ => rfl) rfl sc19 rfl hbl fun X c => zb19  c
  have F20 : Fz ⟨l.prog, w, K, mg, base⟩ 39 "_law_lots" 1 φ20 := fz_mk (bs := bs) (k := 38) U20 (PySem.W.mg_of X G a20) (U20.binds (ps := ["feed"]) fun _ _ _ _ _ _ us hl => match us, hl with | [_], _ => rfl) rfl sc20 rfl hbl fun X c => zb20  (F19.mono (by decide)) c
  have F21 : Fz ⟨l.prog, w, K, mg, base⟩ 40 "_law_some" 3 φ21 := fz_mk (bs := bs) (k := 39) U21 (PySem.W.mg_of X G a21) (U21.binds (ps := ["feed", "names", "many"]) fun _ _ _ _ _ _ us hl => match us, hl with | [_, _, _], _ => rfl) rfl sc21 rfl hbl fun X c => zb21  (F19.mono (by decide)) c
  have F22 : Fz ⟨l.prog, w, K, mg, base⟩ 41 "_law_count" 2 φ22 := fz_mk (bs := bs) (k := 40) U22 (PySem.W.mg_of X G a22) (U22.binds (ps := ["feed", "great"]) fun _ _ _ _ _ _ us hl => match us, hl with | [_, _], _ => rfl) rfl sc22 rfl hbl fun X c => zb22  (F20.mono (by decide)) (F19.mono (by decide)) (F21.mono (by decide)) c
  have F23 : Fz ⟨l.prog, w, K, mg, base⟩ 42 "_law_under" 3 φ23 := fz_mk (bs := bs) (k := 41) U23 (PySem.W.mg_of X G a23) (U23.binds (ps := ["count", "placed", "k"]) fun _ _ _ _ _ _ us hl => match us, hl with | [_, _, _], _ => rfl) rfl sc23 rfl hbl fun X c => zb23  c
  have F24 : Fz ⟨l.prog, w, K, mg, base⟩ 43 "_law_is_barred" 4 φ24 := fz_mk (bs := bs) (k := 42) U24 (PySem.W.mg_of X G a24) (U24.binds (ps := ["count", "name", "names", "placed"]) fun _ _ _ _ _ _ us hl => match us, hl with | [_, _, _, _], _ => rfl) rfl sc24 rfl hbl fun X c => zb24  (F23.mono (by decide)) c
  have F25 : Fz ⟨l.prog, w, K, mg, base⟩ 44 "_law_rows" 1 φ25 := fz_mk (bs := bs) (k := 43) U25 (PySem.W.mg_of X G a25) (U25.binds (ps := ["names"]) fun _ _ _ _ _ _ us hl => match us, hl with | [_], _ => rfl) rfl sc25 rfl hbl fun X c => zb25  c
  have F26 : Fz ⟨l.prog, w, K, mg, base⟩ 50 "_law_alike" 2 φ26 := fz_rec (bs := bs) (k0 := 44) U26 (PySem.W.mg_of X G a26) (U26.binds (ps := ["found", "due"]) fun _ _ _ _ _ _ us hl => match us, hl with | [_, _], _ => rfl) rfl sc26 rfl hbl (fun κ ψ hκ Fr X c => zb26  Fr c) 6
  have F27 : Fz ⟨l.prog, w, K, mg, base⟩ 51 "_law_placings" 1 φ27 := fz_mk (bs := bs) (k := 50) U27 (PySem.W.mg_of X G a27) (U27.binds (ps := ["count"]) fun _ _ _ _ _ _ us hl => match us, hl with | [_], _ => rfl) rfl sc27 rfl hbl fun X c => zb27  c
  have F28 : Fz ⟨l.prog, w, K, mg, base⟩ 52 "_law_can" 3 φ28 := fz_mk (bs := bs) (k := 51) U28 (PySem.W.mg_of X G a28) (U28.binds (ps := ["count", "placings", "name"]) fun _ _ _ _ _ _ us hl => match us, hl with | [_, _, _], _ => rfl) rfl sc28 rfl hbl fun X c => zb28  (F25.mono (by decide)) (F24.mono (by decide)) c
  have F29 : Fz ⟨l.prog, w, K, mg, base⟩ 53 "_law_near" 2 φ29 := fz_mk (bs := bs) (k := 52) U29 (PySem.W.mg_of X G a29) (U29.binds (ps := ["feed", "count"]) fun _ _ _ _ _ _ us hl => match us, hl with | [_, _], _ => rfl) rfl sc29 rfl hbl fun X c => zb29  (F19.mono (by decide)) c
  exact z_fn (k := 53) U30 sc30 rfl hbl fun X c => zb30  (F18.mono (by decide)) (F22.mono (by decide)) (F29.mono (by decide)) (F27.mono (by decide)) (F28.mono (by decide)) (F26.mono (by decide)) (F16.mono (by decide)) c
end Lwk34

namespace Lwk34
open PySem PySem.Spec L2 Z
theorem plain : ∀ ns : List Int, ns.length ≤ 63 → ∃ s', φ30 [.ls (ns.map .int)] [] = .ok (.bl true) s' := by
  intro ns _
  have hLeast : LeastP φ1 := leastP_spec
  have hNames : NamesP φ2 := namesP_spec
  have hAt : NamesAtS φ4 := namesAt_spec hNames
  have hGr : GreatForS φ5 := greatFor_spec hAt
  have hAm : AmongS φ6 := among_spec
  have hHad : HadByS φ7 := hadBy_spec hAm hAt hLeast
  have hRoom : RoomS φ8 := room_spec
  have hBar : BarredS φ9 := barred_spec hGr hHad hRoom
  have hRows : RowsQS φ11 := rowsQ_spec rfl
  have hBarAt : BarAtS φ12 := barAt_spec hRows hBar
  have hSeat : SeatS 8 φ13 := seat_all 8
  have hEnd : EndOfS φ14 := endOf_spec (φs := φ13) rfl rfl rfl hGr hRoom hLeast (j := 8) (by decide) hSeat
  have hSearch : SearchS 12 φ15 := @search_all φ12 φ14 hBarAt hEnd 12
  have hFirsts : FirstsS φ16 := @firsts_spec φ15 hSearch
  have hS : SourceS φ18 := source_spec
  have hD : DrawS φ19 := drawB_spec
  have hL : LotsB φ20 := lotsB_spec hD
  have hM : SomeB φ21 := someB_spec hD
  have hC : CountG φ22 := countG_spec hD hL hM
  have hUn : NamesAtS φ23 := underL_spec
  have hLB : LawBarS φ24 := barL_spec (φu := φ23) rfl rfl rfl hUn
  have hLR : RowsLS φ25 := rowsL_spec rfl
  have hA : ∀ ys : List Str, ys.length ≤ 1000 → Alk φ26 (encS ys) := fun ys hy => by
    refine alk_tup (ψ := recZ 2 4 b26 5) (by rw [List.length_map]; omega) fun d hd => ?_
    obtain ⟨y, _, rfl⟩ := List.mem_map.mp hd
    exact alk_str (ψ := recZ 2 4 b26 4)
  have hPl : PlacS φ27 := plac_spec (bi := bPlaceIn) rfl rfl
  have hCan := @canL_spec φ25 φ24 hLR hLB
  have hCan : ∀ (c : Cnt) (name : Str) (d1 : Dv) (ls : List Dv) (P : List (List (Nat × Str))) (s : Sto) (T : Dv → Sto → Prop), CntB c → name ∈ c.lots → ListAt s d1 ls → HoldP s ls P → (∀ pl ∈ P, PlIn c pl) → T (.bl (P.any (noBar c name))) s → OkE nX (φ28 [encC c, d1, .str name] s) T := hCan
  have hO : Near34 φ29 := near34_spec hD
  suffices h : OkE nX (φ30 [.ls (ns.map .int)] []) (fun d s' => d = .bl true) by
    obtain ⟨d, s', e, rfl⟩ := h.get
    exact ⟨s', e⟩
  show OkE nX (fDef 1 8 b30 _ _) _
  rw [ok_def]
  refine ⟨rfl, ?_⟩
  unfold b30
  generalize φ28 = f28 at hCan ⊢
  generalize φ27 = f27 at hPl ⊢
  generalize φ16 = f16 at hFirsts ⊢
  generalize φ26 = f26 at hA ⊢
  simp only [Y1, Qf, Qt, Qu, Qa, Qg, Qv, Qw, Qx, Qy, Qh, Qz, Jy, Qi, Qb, Qj, Qk, Q0, Jz, Q1, Q2, J0, Q3, Q4, J1, Ql, Qm, Qn, Q5, Qo, Q6, Qp, Q7, Q8, J2, Q9, Ja, J3, J4, J5, Jb, J6, J7, Jc, J8, J9, Jd, Je, Ya, Jf, Yb, Jg, Jh, Y8, Yc, Ji, Yd, Ye, Yf, Yg, Yh, Y2, Jj, Qq, Jk, Yi, Jl, Jm, Yj, Y3, Yk, Yl, Y4, Ym, Y5, Yn, Qc, Yo, Jn, Yp, Yq, Y6, Yr, Qd, Jo, Jp, Y7, Ys, Yt, Yu, Yv, Yw, Yx, Jq, Jr, Qr, Js, Yy, Qe, Qs, List.set_cons_zero, List.set_cons_succ, List.map_cons, List.map_nil, List.replicate, List.cons_append, List.nil_append, List.length_cons, List.length_nil, Bool.false_eq_true, eq_self, if_true, if_false, Nat.zero_add, Jt, Yz, Ju, Jv, Jw, Y0, Jx, true_and]
  refine (hS ns).mono ?_
  rintro d s ⟨f, rfl, rfl, hw, hc0⟩
  simp only [Y1, Qf, Qt, Qu, Qa, Qg, Qv, Qw, Qx, Qy, Qh, Qz, Jy, Qi, Qb, Qj, Qk, Q0, Jz, Q1, Q2, J0, Q3, Q4, J1, Ql, Qm, Qn, Q5, Qo, Q6, Qp, Q7, Q8, J2, Q9, Ja, J3, J4, J5, Jb, J6, J7, Jc, J8, J9, Jd, Je, Ya, Jf, Yb, Jg, Jh, Y8, Yc, Ji, Yd, Ye, Yf, Yg, Yh, Y2, Jj, Qq, Jk, Yi, Jl, Jm, Yj, Y3, Yk, Yl, Y4, Ym, Y5, Yn, Qc, Yo, Jn, Yp, Yq, Y6, Yr, Qd, Jo, Jp, Y7, Ys, Yt, Yu, Yv, Yw, Yx, Jq, Jr, Qr, Js, Yy, Qe, Qs, List.set_cons_zero, List.set_cons_succ, List.map_cons, List.map_nil, List.replicate, List.cons_append, List.nil_append, List.length_cons, List.length_nil, Bool.false_eq_true, eq_self, if_true, if_false, Nat.zero_add, Jt, Yz, Ju, Jv, Jw, Y0, Jx, true_and]
  refine (hC f [] 0 hw (by omega) (by omega) (by omega) Fl.nil).mono ?_
  rintro d s ⟨c1, f1, rfl, hc1, rfl, hw1, hg1, hl1, hsm⟩
  obtain ⟨hp5, hd4⟩ := hsm rfl
  have i0 : ∀ s : Sto, gIx (.ls [encC c1]) (.int 0) s = .ok (encC c1) s := fun _ => rfl
  simp only [Y1, Qf, Qt, Qu, Qa, Qg, Qv, Qw, Qx, Qy, Qh, Qz, Jy, Qi, Qb, Qj, Qk, Q0, Jz, Q1, Q2, J0, Q3, Q4, J1, Ql, Qm, Qn, Q5, Qo, Q6, Qp, Q7, Q8, J2, Q9, Ja, J3, J4, J5, Jb, J6, J7, Jc, J8, J9, Jd, Je, Ya, Jf, Yb, Jg, Jh, Y8, Yc, Ji, Yd, Ye, Yf, Yg, Yh, Y2, Jj, Qq, Jk, Yi, Jl, Jm, Yj, Y3, Yk, Yl, Y4, Ym, Y5, Yn, Qc, Yo, Jn, Yp, Yq, Y6, Yr, Qd, Jo, Jp, Y7, Ys, Yt, Yu, Yv, Yw, Yx, Jq, Jr, Qr, Js, Yy, Qe, Qs, List.set_cons_zero, List.set_cons_succ, List.map_cons, List.map_nil, List.replicate, List.cons_append, List.nil_append, List.length_cons, List.length_nil, Bool.false_eq_true, eq_self, if_true, if_false, Nat.zero_add, Jt, Yz, Ju, Jv, Jw, Y0, Jx, true_and, ok_catL, kCat_ap, i0]
  refine ⟨by decide, ?_⟩
  refine (hO f1 [] c1 hc1 (by omega) hw1 (by omega) Fl.nil).mono ?_
  rintro d s ⟨c2, f2, rfl, hc2, rfl, hw2, hg2, hl2⟩
  simp only [Y1, Qf, Qt, Qu, Qa, Qg, Qv, Qw, Qx, Qy, Qh, Qz, Jy, Qi, Qb, Qj, Qk, Q0, Jz, Q1, Q2, J0, Q3, Q4, J1, Ql, Qm, Qn, Q5, Qo, Q6, Qp, Q7, Q8, J2, Q9, Ja, J3, J4, J5, Jb, J6, J7, Jc, J8, J9, Jd, Je, Ya, Jf, Yb, Jg, Jh, Y8, Yc, Ji, Yd, Ye, Yf, Yg, Yh, Y2, Jj, Qq, Jk, Yi, Jl, Jm, Yj, Y3, Yk, Yl, Y4, Ym, Y5, Yn, Qc, Yo, Jn, Yp, Yq, Y6, Yr, Qd, Jo, Jp, Y7, Ys, Yt, Yu, Yv, Yw, Yx, Jq, Jr, Qr, Js, Yy, Qe, Qs, List.set_cons_zero, List.set_cons_succ, List.map_cons, List.map_nil, List.replicate, List.cons_append, List.nil_append, List.length_cons, List.length_nil, Bool.false_eq_true, eq_self, if_true, if_false, Nat.zero_add, Jt, Yz, Ju, Jv, Jw, Y0, Jx, true_and, i0]
  refine (hO f2 [] c1 hc1 (by omega) hw2 (by omega) Fl.nil).mono ?_
  rintro d s ⟨c3, f3, rfl, hc3, rfl, hw3, hg3, hl3⟩
  simp only [Y1, Qf, Qt, Qu, Qa, Qg, Qv, Qw, Qx, Qy, Qh, Qz, Jy, Qi, Qb, Qj, Qk, Q0, Jz, Q1, Q2, J0, Q3, Q4, J1, Ql, Qm, Qn, Q5, Qo, Q6, Qp, Q7, Q8, J2, Q9, Ja, J3, J4, J5, Jb, J6, J7, Jc, J8, J9, Jd, Je, Ya, Jf, Yb, Jg, Jh, Y8, Yc, Ji, Yd, Ye, Yf, Yg, Yh, Y2, Jj, Qq, Jk, Yi, Jl, Jm, Yj, Y3, Yk, Yl, Y4, Ym, Y5, Yn, Qc, Yo, Jn, Yp, Yq, Y6, Yr, Qd, Jo, Jp, Y7, Ys, Yt, Yu, Yv, Yw, Yx, Jq, Jr, Qr, Js, Yy, Qe, Qs, List.set_cons_zero, List.set_cons_succ, List.map_cons, List.map_nil, List.replicate, List.cons_append, List.nil_append, List.length_cons, List.length_nil, Bool.false_eq_true, eq_self, if_true, if_false, Nat.zero_add, Jt, Yz, Ju, Jv, Jw, Y0, Jx, true_and, i0]
  refine ⟨by decide, ?_⟩
  rw [kCat2_ls]
  refine ⟨rfl, ?_⟩
  have er : ∀ s : Sto, gRepr [.ls [encC c1, encC c2, encC c3]] s = .ok (.str (pd (.ls [encC c1, encC c2, encC c3])).shown) s := fun s => repr_gd (n := 6) (by
      show gds 5 [encC c1, encC c2, encC c3] = true
      simp only [gds, Bool.and_eq_true]
      exact ⟨gd_encCB (n := 0) hc1, gd_encCB (n := 0) hc2, gd_encCB (n := 0) hc3, trivial⟩) (by decide) (by
      have h1 := wd_encCB hc1
      have h2 := wd_encCB hc2
      have h3 := wd_encCB hc3
      simp only [wd, wds]
      omega)
  simp only [Y1, Qf, Qt, Qu, Qa, Qg, Qv, Qw, Qx, Qy, Qh, Qz, Jy, Qi, Qb, Qj, Qk, Q0, Jz, Q1, Q2, J0, Q3, Q4, J1, Ql, Qm, Qn, Q5, Qo, Q6, Qp, Q7, Q8, J2, Q9, Ja, J3, J4, J5, Jb, J6, J7, Jc, J8, J9, Jd, Je, Ya, Jf, Yb, Jg, Jh, Y8, Yc, Ji, Yd, Ye, Yf, Yg, Yh, Y2, Jj, Qq, Jk, Yi, Jl, Jm, Yj, Y3, Yk, Yl, Y4, Ym, Y5, Yn, Qc, Yo, Jn, Yp, Yq, Y6, Yr, Qd, Jo, Jp, Y7, Ys, Yt, Yu, Yv, Yw, Yx, Jq, Jr, Qr, Js, Yy, Qe, Qs, List.set_cons_zero, List.set_cons_succ, List.map_cons, List.map_nil, List.replicate, List.cons_append, List.nil_append, List.length_cons, List.length_nil, Bool.false_eq_true, eq_self, if_true, if_false, Nat.zero_add, Jt, Yz, Ju, Jv, Jw, Y0, Jx, true_and, er]
  refine ⟨by decide, ?_⟩
  refine ok_loop (fun i env s => ∃ (v4 v5 v6 : Option Dv), env = [some (.ls (ns.map .int)), some (.loc 0), some (.ls [encC c1, encC c2, encC c3]), some (.str (pd (.ls [encC c1, encC c2, encC c3])).shown), v4, v5, v6, none] ∧ Cl s)
    (fun _ _ _ _ => rfl) (fun i d env s hd h => ?_) (fun env s h => ?_) ⟨_, _, _, rfl, Cl.of (Fl.feed Fl.nil)⟩
  · obtain ⟨v4, v5, v6, rfl, hcl⟩ := h
    obtain ⟨j, c, rfl, hc, ej⟩ : ∃ (j : Int) (c : Cnt), d = .int j ∧ CntB c ∧ ∀ s : Sto, gIx (.ls [encC c1, encC c2, encC c3]) (.int j) s = .ok (encC c) s := by
      have := List.mem_of_getElem? hd
      simp only [List.mem_cons, List.not_mem_nil, or_false] at this
      rcases this with h | h | h | h
      · exact ⟨0, c1, h, hc1, fun _ => rfl⟩
      · exact ⟨1, c2, h, hc2, fun _ => rfl⟩
      · exact ⟨2, c3, h, hc3, fun _ => rfl⟩
      · exact ⟨0, c1, h, hc1, fun _ => rfl⟩
    have l6 := hc.len6
    simp only [Y1, Qf, Qt, Qu, Qa, Qg, Qv, Qw, Qx, Qy, Qh, Qz, Jy, Qi, Qb, Qj, Qk, Q0, Jz, Q1, Q2, J0, Q3, Q4, J1, Ql, Qm, Qn, Q5, Qo, Q6, Qp, Q7, Q8, J2, Q9, Ja, J3, J4, J5, Jb, J6, J7, Jc, J8, J9, Jd, Je, Ya, Jf, Yb, Jg, Jh, Y8, Yc, Ji, Yd, Ye, Yf, Yg, Yh, Y2, Jj, Qq, Jk, Yi, Jl, Jm, Yj, Y3, Yk, Yl, Y4, Ym, Y5, Yn, Qc, Yo, Jn, Yp, Yq, Y6, Yr, Qd, Jo, Jp, Y7, Ys, Yt, Yu, Yv, Yw, Yx, Jq, Jr, Qr, Js, Yy, Qe, Qs, List.set_cons_zero, List.set_cons_succ, List.map_cons, List.map_nil, List.replicate, List.cons_append, List.nil_append, List.length_cons, List.length_nil, Bool.false_eq_true, eq_self, if_true, if_false, Nat.zero_add, Jt, Yz, Ju, Jv, Jw, Y0, Jx, true_and, ej]
    refine hPl c s _ hc hcl fun d1 ls l hcl2 hAt2 hH => ?_
    generalize s ++ l = s2 at hcl2 hAt2 hH ⊢
    simp only [Y1, Qf, Qt, Qu, Qa, Qg, Qv, Qw, Qx, Qy, Qh, Qz, Jy, Qi, Qb, Qj, Qk, Q0, Jz, Q1, Q2, J0, Q3, Q4, J1, Ql, Qm, Qn, Q5, Qo, Q6, Qp, Q7, Q8, J2, Q9, Ja, J3, J4, J5, Jb, J6, J7, Jc, J8, J9, Jd, Je, Ya, Jf, Yb, Jg, Jh, Y8, Yc, Ji, Yd, Ye, Yf, Yg, Yh, Y2, Jj, Qq, Jk, Yi, Jl, Jm, Yj, Y3, Yk, Yl, Y4, Ym, Y5, Yn, Qc, Yo, Jn, Yp, Yq, Y6, Yr, Qd, Jo, Jp, Y7, Ys, Yt, Yu, Yv, Yw, Yx, Jq, Jr, Qr, Js, Yy, Qe, Qs, List.set_cons_zero, List.set_cons_succ, List.map_cons, List.map_nil, List.replicate, List.cons_append, List.nil_append, List.length_cons, List.length_nil, Bool.false_eq_true, eq_self, if_true, if_false, Nat.zero_add, Jt, Yz, Ju, Jv, Jw, Y0, Jx, true_and, ej, ixC0]
    refine ⟨decide_eq_true (by rw [List.length_map]; omega), ?_⟩
    refine ok_pick (xs := c.lots) (enc := Dv.str) (p := fun o => (placN c.piles c.piles.length).any (noBar c o)) (f := Dv.str) (fun o ho => ?_) ?_
    · simp only [Y1, Qf, Qt, Qu, Qa, Qg, Qv, Qw, Qx, Qy, Qh, Qz, Jy, Qi, Qb, Qj, Qk, Q0, Jz, Q1, Q2, J0, Q3, Q4, J1, Ql, Qm, Qn, Q5, Qo, Q6, Qp, Q7, Q8, J2, Q9, Ja, J3, J4, J5, Jb, J6, J7, Jc, J8, J9, Jd, Je, Ya, Jf, Yb, Jg, Jh, Y8, Yc, Ji, Yd, Ye, Yf, Yg, Yh, Y2, Jj, Qq, Jk, Yi, Jl, Jm, Yj, Y3, Yk, Yl, Y4, Ym, Y5, Yn, Qc, Yo, Jn, Yp, Yq, Y6, Yr, Qd, Jo, Jp, Y7, Ys, Yt, Yu, Yv, Yw, Yx, Jq, Jr, Qr, Js, Yy, Qe, Qs, List.set_cons_zero, List.set_cons_succ, List.map_cons, List.map_nil, List.replicate, List.cons_append, List.nil_append, List.length_cons, List.length_nil, Bool.false_eq_true, eq_self, if_true, if_false, Nat.zero_add, Jt, Yz, Ju, Jv, Jw, Y0, Jx, true_and, wipeZ, ej]
      refine hCan c o d1 ls (placN c.piles c.piles.length) s2 _ hc ho hAt2 hH (fun pl hpl => (placN_ok hc _ pl hpl).2.2) ?_
      simp only [Y1, Qf, Qt, Qu, Qa, Qg, Qv, Qw, Qx, Qy, Qh, Qz, Jy, Qi, Qb, Qj, Qk, Q0, Jz, Q1, Q2, J0, Q3, Q4, J1, Ql, Qm, Qn, Q5, Qo, Q6, Qp, Q7, Q8, J2, Q9, Ja, J3, J4, J5, Jb, J6, J7, Jc, J8, J9, Jd, Je, Ya, Jf, Yb, Jg, Jh, Y8, Yc, Ji, Yd, Ye, Yf, Yg, Yh, Y2, Jj, Qq, Jk, Yi, Jl, Jm, Yj, Y3, Yk, Yl, Y4, Ym, Y5, Yn, Qc, Yo, Jn, Yp, Yq, Y6, Yr, Qd, Jo, Jp, Y7, Ys, Yt, Yu, Yv, Yw, Yx, Jq, Jr, Qr, Js, Yy, Qe, Qs, List.set_cons_zero, List.set_cons_succ, List.map_cons, List.map_nil, List.replicate, List.cons_append, List.nil_append, List.length_cons, List.length_nil, Bool.false_eq_true, eq_self, if_true, if_false, Nat.zero_add, Jt, Yz, Ju, Jv, Jw, Y0, Jx, true_and]
      all_goals first | trivial | exact ⟨rfl, rfl, fun _ => trivial⟩ | exact ⟨rfl, rfl, fun _ => ⟨rfl, rfl⟩⟩ | exact fun _ => ⟨rfl, rfl⟩ | exact fun _ => trivial | exact ⟨rfl, fun _ => trivial⟩ | exact fun _ => rfl
    have ef : (c.lots.filter fun o => (placN c.piles c.piles.length).any (noBar c o)) = c.lots.filter fun o => canJ c o 12 [] := List.filter_congr fun o _ => (can_all hc).symm
    rw [ef]
    have hfl : (c.lots.filter fun o => canJ c o 12 []).length ≤ 1000 := Nat.le_trans (List.length_filter_le _ _) (by omega)
    simp only [Y1, Qf, Qt, Qu, Qa, Qg, Qv, Qw, Qx, Qy, Qh, Qz, Jy, Qi, Qb, Qj, Qk, Q0, Jz, Q1, Q2, J0, Q3, Q4, J1, Ql, Qm, Qn, Q5, Qo, Q6, Qp, Q7, Q8, J2, Q9, Ja, J3, J4, J5, Jb, J6, J7, Jc, J8, J9, Jd, Je, Ya, Jf, Yb, Jg, Jh, Y8, Yc, Ji, Yd, Ye, Yf, Yg, Yh, Y2, Jj, Qq, Jk, Yi, Jl, Jm, Yj, Y3, Yk, Yl, Y4, Ym, Y5, Yn, Qc, Yo, Jn, Yp, Yq, Y6, Yr, Qd, Jo, Jp, Y7, Ys, Yt, Yu, Yv, Yw, Yx, Jq, Jr, Qr, Js, Yy, Qe, Qs, List.set_cons_zero, List.set_cons_succ, List.map_cons, List.map_nil, List.replicate, List.cons_append, List.nil_append, List.length_cons, List.length_nil, Bool.false_eq_true, eq_self, if_true, if_false, Nat.zero_add, Jt, Yz, Ju, Jv, Jw, Y0, Jx, true_and, tuple_ls, ej]
    refine hFirsts c s2 _ hc hcl2 ?_
    simp only [Y1, Qf, Qt, Qu, Qa, Qg, Qv, Qw, Qx, Qy, Qh, Qz, Jy, Qi, Qb, Qj, Qk, Q0, Jz, Q1, Q2, J0, Q3, Q4, J1, Ql, Qm, Qn, Q5, Qo, Q6, Qp, Q7, Q8, J2, Q9, Ja, J3, J4, J5, Jb, J6, J7, Jc, J8, J9, Jd, Je, Ya, Jf, Yb, Jg, Jh, Y8, Yc, Ji, Yd, Ye, Yf, Yg, Yh, Y2, Jj, Qq, Jk, Yi, Jl, Jm, Yj, Y3, Yk, Yl, Y4, Ym, Y5, Yn, Qc, Yo, Jn, Yp, Yq, Y6, Yr, Qd, Jo, Jp, Y7, Ys, Yt, Yu, Yv, Yw, Yx, Jq, Jr, Qr, Js, Yy, Qe, Qs, List.set_cons_zero, List.set_cons_succ, List.map_cons, List.map_nil, List.replicate, List.cons_append, List.nil_append, List.length_cons, List.length_nil, Bool.false_eq_true, eq_self, if_true, if_false, Nat.zero_add, Jt, Yz, Ju, Jv, Jw, Y0, Jx, true_and]
    refine hA _ hfl s2 _ ?_
    simp only [Y1, Qf, Qt, Qu, Qa, Qg, Qv, Qw, Qx, Qy, Qh, Qz, Jy, Qi, Qb, Qj, Qk, Q0, Jz, Q1, Q2, J0, Q3, Q4, J1, Ql, Qm, Qn, Q5, Qo, Q6, Qp, Q7, Q8, J2, Q9, Ja, J3, J4, J5, Jb, J6, J7, Jc, J8, J9, Jd, Je, Ya, Jf, Yb, Jg, Jh, Y8, Yc, Ji, Yd, Ye, Yf, Yg, Yh, Y2, Jj, Qq, Jk, Yi, Jl, Jm, Yj, Y3, Yk, Yl, Y4, Ym, Y5, Yn, Qc, Yo, Jn, Yp, Yq, Y6, Yr, Qd, Jo, Jp, Y7, Ys, Yt, Yu, Yv, Yw, Yx, Jq, Jr, Qr, Js, Yy, Qe, Qs, List.set_cons_zero, List.set_cons_succ, List.map_cons, List.map_nil, List.replicate, List.cons_append, List.nil_append, List.length_cons, List.length_nil, Bool.false_eq_true, eq_self, if_true, if_false, Nat.zero_add, Jt, Yz, Ju, Jv, Jw, Y0, Jx, true_and, Bool.not_true, er, ne_str, BEq.rfl]
    exact ⟨_, _, _, rfl, hcl2⟩
  · obtain ⟨v4, v5, v6, rfl, hcl⟩ := h
    simp only [Y1, Qf, Qt, Qu, Qa, Qg, Qv, Qw, Qx, Qy, Qh, Qz, Jy, Qi, Qb, Qj, Qk, Q0, Jz, Q1, Q2, J0, Q3, Q4, J1, Ql, Qm, Qn, Q5, Qo, Q6, Qp, Q7, Q8, J2, Q9, Ja, J3, J4, J5, Jb, J6, J7, Jc, J8, J9, Jd, Je, Ya, Jf, Yb, Jg, Jh, Y8, Yc, Ji, Yd, Ye, Yf, Yg, Yh, Y2, Jj, Qq, Jk, Yi, Jl, Jm, Yj, Y3, Yk, Yl, Y4, Ym, Y5, Yn, Qc, Yo, Jn, Yp, Yq, Y6, Yr, Qd, Jo, Jp, Y7, Ys, Yt, Yu, Yv, Yw, Yx, Jq, Jr, Qr, Js, Yy, Qe, Qs, List.set_cons_zero, List.set_cons_succ, List.map_cons, List.map_nil, List.replicate, List.cons_append, List.nil_append, List.length_cons, List.length_nil, Bool.false_eq_true, eq_self, if_true, if_false, Nat.zero_add, Jt, Yz, Ju, Jv, Jw, Y0, Jx, true_and]
    exact ok_gc (b := []) (l := s) rfl Fl.nil rfl rfl
end Lwk34

open PySem PySem.W PyProof.Rows
set_option maxHeartbeats 0 in
theorem PySem.Challenge.cw_countbundles_k34_firsts_holds : PySem.Challenge.rw_countbundles_k34_firsts.Holds := by
  w_on; o_law; k_head; (case hw => w_witness2)
  k_fill
  refine Z.walkZ (l := PySem.Challenge.rw_countbundles_k34_firsts) (n := 63) (k := 54) (x := "script") (φ := Lwk34.φ30) rfl (by decide) rfl ⟨rfl, by decide, by decide⟩ (fun w h Y => by first | exact PySem.W.km_in_of Y | exact PySem.W.kIn_of Y) ?F Lwk34.plain
  case F =>
    intro w mg fa h KX G hmg
    refine' Lwk34.all_mk KX G hmg ?a1 ?l1 ?c1 ?k1 ?a2 ?l2 ?c2 ?k2 ?a4 ?l4 ?c4 ?k4 ?a5 ?l5 ?c5 ?k5 ?a6 ?l6 ?c6 ?k6 ?a7 ?l7 ?c7 ?k7 ?a8 ?l8 ?c8 ?k8 ?a9 ?l9 ?c9 ?k9 ?a11 ?l11 ?c11 ?k11 ?a12 ?l12 ?c12 ?k12 ?a13 ?l13 ?c13 ?k13 ?a14 ?l14 ?c14 ?k14 ?a15 ?l15 ?c15 ?k15 ?a16 ?l16 ?c16 ?k16 ?a18 ?l18 ?c18 ?k18 ?a19 ?l19 ?c19 ?k19 ?a20 ?l20 ?c20 ?k20 ?a21 ?l21 ?c21 ?k21 ?a22 ?l22 ?c22 ?k22 ?a23 ?l23 ?c23 ?k23 ?a24 ?l24 ?c24 ?k24 ?a25 ?l25 ?c25 ?k25 ?a26 ?l26 ?c26 ?k26 ?a27 ?l27 ?c27 ?k27 ?a28 ?l28 ?c28 ?k28 ?a29 ?l29 ?c29 ?k29 ?a30 ?l30 ?c30 ?k30 ?z0 ?z1 ?z2 ?z3 ?z4 ?z5 ?z6 ?z7 ?z8 ?z9 ?z10 ?z11 ?z12 ?z13 ?z14 ?z15 ?z16 ?z17
    (case a1 => k_is); (case l1 => k_is); (case c1 => k_is); (case k1 => k_is); (case a2 => k_is); (case l2 => k_is); (case c2 => k_is); (case k2 => k_is); (case a4 => k_is); (case l4 => k_is); (case c4 => k_is); (case k4 => k_is); (case a5 => k_is); (case l5 => k_is); (case c5 => k_is); (case k5 => k_is); (case a6 => k_is); (case l6 => k_is); (case c6 => k_is); (case k6 => k_is); (case a7 => k_is); (case l7 => k_is); (case c7 => k_is); (case k7 => k_is); (case a8 => k_is); (case l8 => k_is); (case c8 => k_is); (case k8 => k_is); (case a9 => k_is); (case l9 => k_is); (case c9 => k_is); (case k9 => k_is); (case a11 => k_is); (case l11 => k_is); (case c11 => k_is); (case k11 => k_is); (case a12 => k_is); (case l12 => k_is); (case c12 => k_is); (case k12 => k_is); (case a13 => k_is); (case l13 => k_is); (case c13 => k_is); (case k13 => k_is); (case a14 => k_is); (case l14 => k_is); (case c14 => k_is); (case k14 => k_is); (case a15 => k_is); (case l15 => k_is); (case c15 => k_is); (case k15 => k_is); (case a16 => k_is); (case l16 => k_is); (case c16 => k_is); (case k16 => k_is); (case a18 => k_is); (case l18 => k_is); (case c18 => k_is); (case k18 => k_is); (case a19 => k_is); (case l19 => k_is); (case c19 => k_is); (case k19 => k_is); (case a20 => k_is); (case l20 => k_is); (case c20 => k_is); (case k20 => k_is); (case a21 => k_is); (case l21 => k_is); (case c21 => k_is); (case k21 => k_is); (case a22 => k_is); (case l22 => k_is); (case c22 => k_is); (case k22 => k_is); (case a23 => k_is); (case l23 => k_is); (case c23 => k_is); (case k23 => k_is); (case a24 => k_is); (case l24 => k_is); (case c24 => k_is); (case k24 => k_is); (case a25 => k_is); (case l25 => k_is); (case c25 => k_is); (case k25 => k_is); (case a26 => k_is); (case l26 => k_is); (case c26 => k_is); (case k26 => k_is); (case a27 => k_is); (case l27 => k_is); (case c27 => k_is); (case k27 => k_is); (case a28 => k_is); (case l28 => k_is); (case c28 => k_is); (case k28 => k_is); (case a29 => k_is); (case l29 => k_is); (case c29 => k_is); (case k29 => k_is); (case a30 => k_is); (case l30 => k_is); (case c30 => k_is); (case k30 => k_is); (case z0 => k_is); (case z1 => k_is); (case z2 => k_is); (case z3 => k_is); (case z4 => k_is); (case z5 => k_is); (case z6 => k_is); (case z7 => k_is); (case z8 => k_is); (case z9 => k_is); (case z10 => k_is); (case z11 => k_is); (case z12 => k_is); (case z13 => k_is); (case z14 => k_is); (case z15 => k_is); (case z16 => k_is); (case z17 => k_is)
