import PyProof.Rows.All
import Wide.All
import OpenK.AllK
import Wide.FinOn
import HandS.ForMost
import HandS.SortKw
import HandS.Deep
import HandS.Strs
import HandS.Conv
import HandS.Zip
import HandS.Rev
import HandS.RevRange
import HandS.Flow
import HandS.IsInst
import HandS.Wide
import HandS.TupAny
import HandS.TupMul
import HandS.Lambda
import HandS.EndTab
import HandS.FStr
import HandS.StrMore
import KE.SortData
import KE.SortKeyHeap
import HandS.Style
import PyProof.TupleOfSeq
import PyProof.Transfer
import KE.GoesMore
import KE.GoesEnum
import KE.KTupSum
import HandS.Defaults
import PyProof.Conv_int_bool
import KE.KxIndex
import KE.KDictSum
import HandS.ExcCtx
import HandS.ExcInit
import HandS.ExcInitHot
import HandS.ExcIs
import HandS.ExcField
import HandS.CallSlots
import HandS.HotCalls
import KE.KTryMore
import KE.KExcInit
import PyProof.SumAny
import HandS.NoneIn
import KE.KRevSl
import HandS.SetKeys
import HandS.Text
import PyProof.Rows.IntBool
import PyProof.CallStr
import HandS.Iter
import KE.DataMinKey
import PyProof.StrLawsIn
import PySem.Challenge.RW_countbundles_k05_counts_by_kind
set_option Elab.async false
set_option linter.all false
set_option maxRecDepth 100000
set_option maxHeartbeats 4000000
namespace Z
open PySem PySem.Spec PyProof.Rows L2

/-! ### plain data, the store of what may change, results -/
/-- lists and dicts -/
def MutH : Option HO → Prop
  | some (.lst _) => True
  | some (.dK _) => True
  | some (.dT _) => True
  | _ => False
/-- the defs of the text in which lambdas are made -/
def tabN : List Str := []
/-- .. how such a lambda is called -/
def lamQ (x : Str) : Str := (x ++ (".<locals>." : Str)) ++ ("<lambda>" : Str)
/-- plain data; ls: a list that nobody changes; loc n: the n-th thing of the store -/
inductive Dv where
  | non | bl (b : Bool) | int (i : Int) | str (s : Str) | tup (ds : List Dv) | ls (ds : List Dv) | loc (n : Nat) | xn (a d : Addr) (c : Nat) (fs : List Dv)
/-- the names of the fields of an error of the program, by its number -/
def fldN : Nat → List Str
  | 0 => ["word", "at"]
  | 1 => ["number"]
  | 2 => ["word"]
  | 3 => ["row", "word"]
  | 4 => ["row"]
  | 5 => ["name"]
  | 6 => ["pile"]
  | 7 => ["step"]
  | 8 => ["number"]
  | _ => []
/-- what may change -/
inductive Ob where
  | lst (ds : List Dv) | dk (kvs : List (Key × Dv)) | dt (kvs : List (List Key × Dv))
abbrev Sto := List Ob
inductive Rs (α : Type) where
  | ok (a : α) (s : Sto) | exc (e : Dv) (s : Sto) | bad
def Rs.bind {α β : Type} (r : Rs α) (f : α → Sto → Rs β) : Rs β := match r with
  | .ok a s => f a s
  | .exc e s => .exc e s
  | .bad => .bad
theorem Rs.bind_ok {α β : Type} {r : Rs α} {f : α → Sto → Rs β} {b : β} {s' : Sto} (h : r.bind f = .ok b s') : ∃ a s, r = .ok a s ∧ f a s = .ok b s' := by
  cases r with
  | ok a s => exact ⟨a, s, rfl, h⟩
  | exc e s => cases h
  | bad => cases h
abbrev En := List (Option Dv)
abbrev Fn (α : Type) := En → Sto → Rs α

/-- where the store's things lie; what is laid aside for the moment -/
structure Lo where
  locs : List Addr
  hid : List Addr
/-- a list at a that nobody changes -/
def Ls (K : PySem.W.Frag) (B : Lo) (H : Hp) (a : Addr) (xs : List V) : Prop :=
  (H a = some (.lst xs) ∧ a ∉ B.locs ∧ a ∉ B.hid) ∨ (∃ o, H a = some (.frz o (.lst xs))) ∨
    ∃ (o : Obj) (its : Array Value) (n : Nat), K.lookup a = some o ∧ o.cls = .type "list" ∧ o.dict = none ∧ o.data = .seq its n ∧ its.size ≤ sizeLine ∧ Vals xs its.toList
theorem Ls.sq {K : PySem.W.Frag} {B : Lo} {H : Hp} {a : Addr} {xs : List V} (h : Ls K B H a xs) : SqL K H a xs := by
  rcases h with ⟨h, _⟩ | h | h
  · exact .inl (.inl h)
  · exact .inl (.inr h)
  · exact .inr h
/-- a tuple at a, its head plain -/
def Tk (K : PySem.W.Frag) (H : Hp) (a : Addr) (xs : List V) : Prop :=
  (∃ o, H a = some (.frz o (.tup xs)) ∧ o.dict = none) ∨
    ∃ (o : Obj) (its : Array Value) (n : Nat), K.lookup a = some o ∧ o.cls = .type "tuple" ∧ o.dict = none ∧ o.data = .seq its n ∧ its.size ≤ sizeLine ∧ Vals xs its.toList
theorem Tk.sq {K : PySem.W.Frag} {H : Hp} {a : Addr} {xs : List V} (h : Tk K H a xs) : SqT K H a xs := by
  rcases h with ⟨o, h, _⟩ | ⟨o, its, n, h1, h2, _, h3⟩
  · exact .inl (.inr ⟨o, h⟩)
  · exact .inr ⟨o, its, n, h1, h2, h3⟩
mutual
inductive Rp (K : PySem.W.Frag) (B : Lo) (H : Hp) : Dv → V → Prop
  | non : Rp K B H .non .non
  | bl (b : Bool) : Rp K B H (.bl b) (.bl b)
  | int (i : Int) : Rp K B H (.int i) (.int i)
  | str (x : Str) : Rp K B H (.str x) (.str x)
  | tup {a : Addr} {xs : List V} {ds : List Dv} : Tk K H a xs → Rps K B H ds xs → Rp K B H (.tup ds) (.ref a)
  | ls {a : Addr} {xs : List V} {ds : List Dv} : Ls K B H a xs → Rps K B H ds xs → Rp K B H (.ls ds) (.ref a)
  | loc {n : Nat} {a : Addr} : B.locs[n]? = some a → Rp K B H (.loc n) (.ref a)
  | xn {a d : Addr} {c : Nat} {fs : List Dv} {kvs : List (Str × V)} {vs : List V} : H d = some (.xd kvs) → d ∉ B.locs → d ∉ B.hid → (fldN c).mapM (fun f => kvs.lookup f) = some vs → Rps K B H fs vs → Rp K B H (.xn a d c fs) (.ref a)
inductive Rps (K : PySem.W.Frag) (B : Lo) (H : Hp) : List Dv → List V → Prop
  | nil : Rps K B H [] []
  | cons {d : Dv} {v : V} {ds : List Dv} {vs : List V} : Rp K B H d v → Rps K B H ds vs → Rps K B H (d :: ds) (v :: vs)
end
/-- what a stretch of running may do to what is tracked -/
structure Mo (B : Lo) (H : Hp) (B' : Lo) (H' : Hp) : Prop where
  pre : B.locs <+: B'.locs
  keep : ∀ b o, H b = some o → b ∉ B.locs → b ∉ B.hid → (∀ ps, o ≠ .tbl ps) → H' b = some o
  tups : ∀ b xs, H b = some (.tup xs) → H' b = some (.tup xs)
  frzs : ∀ b o u, H b = some (.frz o u) → H' b = some (.frz o u)
  new : ∀ b, b ∈ B'.locs ∨ b ∈ B'.hid → b ∈ B.locs ∨ b ∈ B.hid ∨ H b = none
  tbls : ∀ b ps, H b = some (.tbl ps) → ∃ ps', H' b = some (.tbl ps')
theorem tbl_or (o : HO) : (∀ ps, o ≠ .tbl ps) ∨ ∃ ps, o = .tbl ps := by
  cases o
  case tbl ps => exact .inr ⟨ps, rfl⟩
  all_goals exact .inl fun _ z => by cases z
/-- what is there stays there -/
theorem Mo.there {B B' : Lo} {H H' : Hp} (x : Mo B H B' H') {b : Addr} {o : HO} (e : H b = some o) (h1 : b ∉ B.locs) (h2 : b ∉ B.hid) : ∃ u, H' b = some u := by
  rcases tbl_or o with z | ⟨ps, rfl⟩
  · exact ⟨_, x.keep b o e h1 h2 z⟩
  · obtain ⟨q, hq⟩ := x.tbls b ps e
    exact ⟨_, hq⟩
theorem Mo.refl (B : Lo) (H : Hp) : Mo B H B H := ⟨List.prefix_refl _, fun _ _ h _ _ _ => h, fun _ _ h => h, fun _ _ _ h => h, fun _ h => h.elim .inl fun z => .inr (.inl z), fun _ ps h => ⟨ps, h⟩⟩
theorem Mo.trans {B B1 B2 : Lo} {H H1 H2 : Hp} (a : Mo B H B1 H1) (b : Mo B1 H1 B2 H2) : Mo B H B2 H2 where
  pre := a.pre.trans b.pre
  keep := fun c o h hn hh ht => by
    refine b.keep c o (a.keep c o h hn hh ht) (fun z => ?_) (fun z => ?_) ht
    · rcases a.new c (.inl z) with q | q | q
      · exact hn q
      · exact hh q
      · rw [h] at q; cases q
    · rcases a.new c (.inr z) with q | q | q
      · exact hn q
      · exact hh q
      · rw [h] at q; cases q
  tups := fun c xs h => b.tups c xs (a.tups c xs h)
  frzs := fun c o u h => b.frzs c o u (a.frzs c o u h)
  new := fun c h => by
    rcases b.new c h with q | q | q
    · exact a.new c (.inl q)
    · exact a.new c (.inr q)
    · cases e : H c with
      | none => exact .inr (.inr rfl)
      | some o =>
        by_cases hc : c ∈ B.locs
        · exact .inl hc
        · by_cases hh : c ∈ B.hid
          · exact .inr (.inl hh)
          · obtain ⟨u, hu⟩ := a.there e hc hh
            rw [hu] at q; cases q
  tbls := fun c ps h => by
    obtain ⟨q, hq⟩ := a.tbls c ps h
    exact b.tbls c q hq
theorem pre_get {α : Type} {β β' : List α} (h : β <+: β') {n : Nat} {a : α} (e : β[n]? = some a) : β'[n]? = some a := by
  obtain ⟨t, rfl⟩ := h
  have hl : n < β.length := (List.getElem?_eq_some_iff.mp e).1
  rw [List.getElem?_append_left hl]; exact e
section
variable {K : PySem.W.Frag} {B B' : Lo} {H H' : Hp}
theorem Mo.tk (x : Mo B H B' H') {a : Addr} {xs : List V} (h : Tk K H a xs) : Tk K H' a xs := by
  rcases h with ⟨o, h, d⟩ | h
  · exact .inl ⟨o, x.frzs _ _ _ h, d⟩
  · exact .inr h
theorem Mo.ls (x : Mo B H B' H') {a : Addr} {xs : List V} (h : Ls K B H a xs) : Ls K B' H' a xs := by
  rcases h with ⟨h, n, m⟩ | ⟨o, h⟩ | h
  · refine .inl ⟨x.keep _ _ h n m (fun _ z => by cases z), fun z => ?_, fun z => ?_⟩
    · rcases x.new _ (.inl z) with q | q | q
      · exact n q
      · exact m q
      · rw [h] at q; cases q
    · rcases x.new _ (.inr z) with q | q | q
      · exact n q
      · exact m q
      · rw [h] at q; cases q
  · exact .inr (.inl ⟨o, x.frzs _ _ _ h⟩)
  · exact .inr (.inr h)
mutual
theorem Rp.mono (x : Mo B H B' H') : ∀ {d : Dv} {v : V}, Rp K B H d v → Rp K B' H' d v
  | _, _, .non => .non
  | _, _, .bl b => .bl b
  | _, _, .int i => .int i
  | _, _, .str i => .str i
  | _, _, .tup h r => .tup (x.tk h) (Rps.mono x r)
  | _, _, .ls h r => .ls (x.ls h) (Rps.mono x r)
  | _, _, .loc h => .loc (pre_get x.pre h)
  | _, _, .xn h n m l r => .xn (x.keep _ _ h n m (fun _ z => by cases z)) (fun z => by
      rcases x.new _ (.inl z) with q | q | q
      · exact n q
      · exact m q
      · rw [h] at q; cases q) (fun z => by
      rcases x.new _ (.inr z) with q | q | q
      · exact n q
      · exact m q
      · rw [h] at q; cases q) l (Rps.mono x r)
theorem Rps.mono (x : Mo B H B' H') : ∀ {ds : List Dv} {vs : List V}, Rps K B H ds vs → Rps K B' H' ds vs
  | _, _, .nil => .nil
  | _, _, .cons h r => .cons (Rp.mono x h) (Rps.mono x r)
end
theorem Rps.length : ∀ {ds : List Dv} {vs : List V}, Rps K B H ds vs → ds.length = vs.length
  | _, _, .nil => rfl
  | _, _, .cons _ r => congrArg (· + 1) r.length
theorem Rps.get : ∀ {ds : List Dv} {vs : List V}, Rps K B H ds vs → ∀ {i : Nat} {d : Dv}, ds[i]? = some d → ∃ v, vs[i]? = some v ∧ Rp K B H d v
  | _, _, .nil, i, d, e => by simp at e
  | _, _, .cons h r, 0, d, e => by simp at e; subst e; exact ⟨_, rfl, h⟩
  | _, _, .cons h r, i + 1, d, e => by
    obtain ⟨v, h1, h2⟩ := r.get (i := i) (d := d) (by simpa using e)
    exact ⟨v, by simpa using h1, h2⟩
theorem Rps.append : ∀ {ds es : List Dv} {vs us : List V}, Rps K B H ds vs → Rps K B H es us → Rps K B H (ds ++ es) (vs ++ us)
  | _, _, _, _, .nil, s => s
  | _, _, _, _, .cons h r, s => .cons h (r.append s)
theorem Rps.take : ∀ {ds : List Dv} {vs : List V} (n : Nat), Rps K B H ds vs → Rps K B H (ds.take n) (vs.take n)
  | _, _, 0, _ => .nil
  | _, _, _ + 1, .nil => .nil
  | _, _, n + 1, .cons h r => .cons h (r.take n)
theorem Rps.drop : ∀ {ds : List Dv} {vs : List V} (n : Nat), Rps K B H ds vs → Rps K B H (ds.drop n) (vs.drop n)
  | _, _, 0, h => h
  | _, _, _ + 1, .nil => .nil
  | _, _, n + 1, .cons h r => r.drop n
theorem Rps.set : ∀ {ds : List Dv} {vs : List V} (n : Nat) {d : Dv} {v : V}, Rps K B H ds vs → Rp K B H d v → Rps K B H (ds.set n d) (vs.set n v)
  | _, _, _, _, _, .nil, _ => .nil
  | _, _, 0, _, _, .cons h r, q => .cons q r
  | _, _, n + 1, _, _, .cons h r, q => .cons h (r.set n q)
theorem Rps.eraseIdx : ∀ {ds : List Dv} {vs : List V} (n : Nat), Rps K B H ds vs → Rps K B H (ds.eraseIdx n) (vs.eraseIdx n)
  | _, _, _, .nil => .nil
  | _, _, 0, .cons h r => r
  | _, _, n + 1, .cons h r => .cons h (r.eraseIdx n)
theorem Rps.reverse {ds : List Dv} {vs : List V} (h : Rps K B H ds vs) : Rps K B H ds.reverse vs.reverse := by
  induction h using Rps.rec (motive_1 := fun _ _ _ => True) with
  | non => trivial
  | bl => trivial
  | int => trivial
  | str => trivial
  | tup => trivial
  | ls => trivial
  | loc => trivial
  | xn => trivial
  | nil => exact .nil
  | cons h r _ ih =>
    rw [List.reverse_cons, List.reverse_cons]
    exact ih.append (.cons h .nil)
end

/-! ### the store -/
section
variable (K : PySem.W.Frag)
def RpO (B : Lo) (H : Hp) (a : Addr) : Ob → Prop
  | .lst ds => ∃ xs, H a = some (.lst xs) ∧ Rps K B H ds xs
  | .dk kvs => ∃ ks, H a = some (.dK ks) ∧ Paired (fun (p : Key × Dv) (q : Key × V) => p.1 = q.1 ∧ Rp K B H p.2 q.2) kvs ks
  | .dt kvs => ∃ ks, H a = some (.dT ks) ∧ Paired (fun (p : List Key × Dv) (q : List Key × V) => p.1 = q.1 ∧ Rp K B H p.2 q.2) kvs ks
/-- the table at P has lambdas of the name q alone -/
def TabZ (B : Lo) (H : Hp) (P : Addr) (q : Str) : Prop := ∃ ps : Array Value, H P = some (.tbl ps) ∧ TriplesOk ps.toList ∧ ∀ (pos : Pos) (cv : Value), codeAmong pos ps.toList = some cv → ∃ c, cv = .ref c ∧ H c = some (LamX.CodeO c q) ∧ c ∉ B.locs ∧ c ∉ B.hid
structure Sim (B : Lo) (H : Hp) (s : Sto) : Prop where
  nd : B.locs.Nodup
  len : B.locs.length = s.length
  obs : ∀ (n : Nat) (a : Addr) (o : Ob), B.locs[n]? = some a → s[n]? = some o → RpO K B H a o
  hid : ∀ b ∈ B.hid, b ∉ B.locs ∧ ∃ u, H b = some u ∧ MutH (some u)
  tabs : ∀ x ∈ tabN, ∀ c P, PySem.W.tabIn K x = some (c, P) → TabZ B H P (lamQ x)
end
section
variable {K : PySem.W.Frag} {B B' : Lo} {H H' : Hp} {s : Sto}
theorem RpO.mono (x : Mo B H B' H') {a : Addr} (e : H' a = H a) {o : Ob} (h : RpO K B H a o) : RpO K B' H' a o := by
  cases o with
  | lst ds => obtain ⟨xs, h1, h2⟩ := h; exact ⟨xs, e.trans h1, h2.mono x⟩
  | dk kvs => obtain ⟨ks, h1, h2⟩ := h; exact ⟨ks, e.trans h1, Paired.mapP h2 fun p q z => ⟨z.1, z.2.mono x⟩⟩
  | dt kvs => obtain ⟨ks, h1, h2⟩ := h; exact ⟨ks, e.trans h1, Paired.mapP h2 fun p q z => ⟨z.1, z.2.mono x⟩⟩
theorem TabZ.mono (x : Mo B H B' H') {P : Addr} {q : Str} (e : H' P = H P) (h : TabZ B H P q) : TabZ B' H' P q := by
  obtain ⟨ps, h1, h2, h3⟩ := h
  refine ⟨ps, e.trans h1, h2, fun pos cv hc => ?_⟩
  obtain ⟨c, e1, e2, n, m⟩ := h3 pos cv hc
  refine ⟨c, e1, x.keep _ _ e2 n m (fun ps z => LamX.codeO_ne ps z), fun z => ?_, fun z => ?_⟩
  · rcases x.new _ (.inl z) with q | q | q
    · exact n q
    · exact m q
    · rw [e2] at q; cases q
  · rcases x.new _ (.inr z) with q | q | q
    · exact n q
    · exact m q
    · rw [e2] at q; cases q
theorem TabZ.cut {L : List Addr} (hp : L <+: B.locs) {P : Addr} {q : Str} (x : TabZ B H P q) : TabZ ⟨L, B.hid⟩ H P q := by
  obtain ⟨ps, h1, h2, h3⟩ := x
  refine ⟨ps, h1, h2, fun pos cv hc => ?_⟩
  obtain ⟨c, e1, e2, n, m⟩ := h3 pos cv hc
  exact ⟨c, e1, e2, fun z => n (hp.subset z), m⟩
theorem TabZ.ne {P a : Addr} {q : Str} (h : TabZ B H P q) {u : HO} (e : H a = some u) (hm : MutH (some u)) : P ≠ a := fun z => by
  obtain ⟨ps, h1, _⟩ := h
  rw [z, e] at h1; cases h1; exact hm
theorem TabZ.ne0 {P a : Addr} {q : Str} (h : TabZ B H P q) (e : H a = none) : P ≠ a := fun z => by
  obtain ⟨ps, h1, _⟩ := h
  rw [z, e] at h1; cases h1
theorem RpO.there {a : Addr} {o : Ob} (h : RpO K B H a o) : ∃ u, H a = some u ∧ MutH (some u) := by
  cases o with
  | lst ds => obtain ⟨xs, h1, h2⟩ := h; exact ⟨_, h1, trivial⟩
  | dk kvs => obtain ⟨ks, h1, h2⟩ := h; exact ⟨_, h1, trivial⟩
  | dt kvs => obtain ⟨ks, h1, h2⟩ := h; exact ⟨_, h1, trivial⟩
theorem Sim.at (S : Sim K B H s) {n : Nat} {a : Addr} (h : B.locs[n]? = some a) : ∃ o, s[n]? = some o ∧ RpO K B H a o := by
  have hl : n < s.length := by rw [← S.len]; exact (List.getElem?_eq_some_iff.mp h).1
  exact ⟨s[n], List.getElem?_eq_getElem hl, S.obs n a _ h (List.getElem?_eq_getElem hl)⟩
theorem Sim.mem (S : Sim K B H s) {a : Addr} (h : a ∈ B.locs) : ∃ u, H a = some u ∧ MutH (some u) := by
  obtain ⟨n, hn⟩ := List.getElem?_of_mem h
  obtain ⟨o, _, r⟩ := S.at hn
  exact r.there
theorem Sim.free (S : Sim K B H s) {p : Addr} (h : H p = none) : p ∉ B.locs := fun z => by
  obtain ⟨u, e, _⟩ := S.mem z
  rw [h] at e; cases e
theorem Sim.freeH (S : Sim K B H s) {p : Addr} (h : H p = none) : p ∉ B.hid := fun z => by
  obtain ⟨_, xs, e, _⟩ := S.hid p z
  rw [h] at e; cases e
/-- a new thing that the store doesn't have -/
theorem Mo.laid {p : Addr} {o : HO} (h : H p = none) : Mo B H B (upd H p o) :=
  ⟨List.prefix_refl _, fun b u e _ _ _ => by rw [upd_ne (ne_of_none e h)]; exact e, fun b u e => by rw [upd_ne (ne_of_none e h)]; exact e, fun b u v e => by rw [upd_ne (ne_of_none e h)]; exact e, fun _ z => z.elim .inl fun z => .inr (.inl z), fun b ps e => ⟨ps, by rw [upd_ne (ne_of_none e h)]; exact e⟩⟩
/-- .. laid aside -/
theorem Mo.aside {p : Addr} {o : HO} (h : H p = none) : Mo B H ⟨B.locs, p :: B.hid⟩ (upd H p o) :=
  ⟨List.prefix_refl _, fun b u e _ _ _ => by rw [upd_ne (ne_of_none e h)]; exact e, fun b u e => by rw [upd_ne (ne_of_none e h)]; exact e, fun b u v e => by rw [upd_ne (ne_of_none e h)]; exact e, fun b z => by
    rcases z with z | z
    · exact .inl z
    · rcases List.mem_cons.mp z with z | z
      · rw [z]; exact .inr (.inr h)
      · exact .inr (.inl z), fun b ps e => ⟨ps, by rw [upd_ne (ne_of_none e h)]; exact e⟩⟩
theorem Sim.laid (S : Sim K B H s) {p : Addr} {o : HO} (h : H p = none) : Sim K B (upd H p o) s :=
  ⟨S.nd, S.len, fun n a u e1 e2 => by
    obtain ⟨v, ev, _⟩ := (S.obs n a u e1 e2).there
    exact (S.obs n a u e1 e2).mono (Mo.laid h) (upd_ne (ne_of_none ev h)), fun b hb => by
    obtain ⟨h1, xs, e, hm⟩ := S.hid b hb
    exact ⟨h1, xs, (upd_ne (ne_of_none e h)).trans e, hm⟩, fun x hx c P e => (S.tabs x hx c P e).mono (Mo.laid h) (upd_ne ((S.tabs x hx c P e).ne0 h))⟩
theorem Sim.aside (S : Sim K B H s) {p : Addr} {o : HO} (h : H p = none) (hm : MutH (some o) := by trivial) : Sim K ⟨B.locs, p :: B.hid⟩ (upd H p o) s :=
  ⟨S.nd, S.len, fun n a u e1 e2 => by
    obtain ⟨v, ev, _⟩ := (S.obs n a u e1 e2).there
    exact (S.obs n a u e1 e2).mono (Mo.aside h) (upd_ne (ne_of_none ev h)), fun b hb => by
    rcases List.mem_cons.mp hb with z | z
    · subst z; exact ⟨S.free h, _, upd_same, hm⟩
    · obtain ⟨h1, xs, e, hm⟩ := S.hid b z
      exact ⟨h1, xs, (upd_ne (ne_of_none e h)).trans e, hm⟩, fun x hx c P e => (S.tabs x hx c P e).mono (Mo.aside h) (upd_ne ((S.tabs x hx c P e).ne0 h))⟩
/-- what was laid aside is let go: it is a list that nobody changes -/
theorem Mo.back {p : Addr} : Mo ⟨B.locs, p :: B.hid⟩ H B H :=
  ⟨List.prefix_refl _, fun b u e _ _ _ => e, fun b u e => e, fun b u v e => e, fun b z => z.elim .inl fun z => .inr (.inl (List.mem_cons_of_mem _ z)), fun _ ps e => ⟨ps, e⟩⟩
theorem Sim.back {p : Addr} (S : Sim K ⟨B.locs, p :: B.hid⟩ H s) : Sim K B H s :=
  ⟨S.nd, S.len, fun n a u e1 e2 => (S.obs n a u e1 e2).mono Mo.back rfl, fun b hb => S.hid b (List.mem_cons_of_mem _ hb), fun x hx c P e => (S.tabs x hx c P e).mono Mo.back rfl⟩
/-- .. or it is put into the store -/
theorem Mo.adopt {p : Addr} : Mo ⟨B.locs, p :: B.hid⟩ H ⟨B.locs ++ [p], B.hid⟩ H :=
  ⟨List.prefix_append _ _, fun b u e _ _ _ => e, fun b u e => e, fun b u v e => e, fun b z => by
    rcases z with z | z
    · rcases List.mem_append.mp z with z | z
      · exact .inl z
      · rw [List.mem_singleton.mp z]; exact .inr (.inl List.mem_cons_self)
    · exact .inr (.inl (List.mem_cons_of_mem _ z)), fun _ ps e => ⟨ps, e⟩⟩
theorem Sim.adopt {p : Addr} {o : Ob} (S : Sim K ⟨B.locs, p :: B.hid⟩ H s) (hh : p ∉ B.hid) (r : RpO K ⟨B.locs, p :: B.hid⟩ H p o) : Sim K ⟨B.locs ++ [p], B.hid⟩ H (s ++ [o]) := by
  have hp : p ∉ B.locs := (S.hid p List.mem_cons_self).1
  refine ⟨List.nodup_append.mpr ⟨S.nd, by simp, fun a ha b hb => ?_⟩, by simp [← S.len], fun n a u e1 e2 => ?_, fun b hb => ?_, fun x hx c P e => (S.tabs x hx c P e).mono Mo.adopt rfl⟩
  · rw [List.mem_singleton.mp hb]; exact fun z => hp (z ▸ ha)
  · have hl : B.locs.length = s.length := S.len
    have e1' : (B.locs ++ [p])[n]? = some a := e1
    by_cases hn : n < B.locs.length
    · rw [List.getElem?_append_left hn] at e1'
      rw [List.getElem?_append_left (by rw [← hl]; exact hn)] at e2
      exact (S.obs n a u e1' e2).mono Mo.adopt rfl
    · have h2 : n = B.locs.length := by
        have := (List.getElem?_eq_some_iff.mp e1').1
        simp at this; omega
      subst h2
      rw [List.getElem?_append_right (Nat.le_refl _)] at e1'
      rw [hl, List.getElem?_append_right (Nat.le_refl _)] at e2
      simp at e1' e2
      subst e1'; subst e2
      exact r.mono Mo.adopt rfl
  · obtain ⟨h1, h2⟩ := S.hid b (List.mem_cons_of_mem _ hb)
    refine ⟨fun z => ?_, h2⟩
    rcases List.mem_append.mp z with z | z
    · exact h1 z
    · rw [List.mem_singleton.mp z] at hb; exact hh hb
/-- a thing of the store is changed -/
theorem Mo.write (S : Sim K B H s) {n : Nat} {a : Addr} {o : HO} (e : B.locs[n]? = some a) : Mo B H B (upd H a o) := by
  obtain ⟨u, hu, hm⟩ := S.mem (List.mem_of_getElem? e)
  refine ⟨List.prefix_refl _, fun b v q hb _ _ => ?_, fun b xs q => ?_, fun b v w q => ?_, fun _ z => z.elim .inl fun z => .inr (.inl z), fun b ps q => ⟨ps, ?_⟩⟩
  · rw [upd_ne (fun z : b = a => hb (z ▸ List.mem_of_getElem? e))]; exact q
  · rw [upd_ne (fun z => by subst z; rw [q] at hu; cases hu; exact hm)]; exact q
  · rw [upd_ne (fun z => by subst z; rw [q] at hu; cases hu; exact hm)]; exact q
  · rw [upd_ne (fun z => by subst z; rw [q] at hu; cases hu; exact hm)]; exact q
theorem Sim.write (S : Sim K B H s) {n : Nat} {a : Addr} {o : HO} {u : Ob} (e : B.locs[n]? = some a) (r : RpO K B (upd H a o) a u) : Sim K B (upd H a o) (s.set n u) := by
  refine ⟨S.nd, by rw [List.length_set]; exact S.len, fun m b v e1 e2 => ?_, fun b hb => ?_, fun x hx c P q => ?_⟩
  · by_cases hm : n = m
    · subst hm
      rw [e] at e1; cases e1
      have hl : n < s.length := by rw [← S.len]; exact (List.getElem?_eq_some_iff.mp e).1
      rw [List.getElem?_set_self hl] at e2; cases e2
      exact r
    · rw [List.getElem?_set_ne hm] at e2
      have hb : b ≠ a := fun z => by
        subst z
        obtain ⟨h1, q1⟩ := List.getElem?_eq_some_iff.mp e
        obtain ⟨h2, q2⟩ := List.getElem?_eq_some_iff.mp e1
        exact hm ((List.getElem_inj S.nd).mp (q1.trans q2.symm))
      exact (S.obs m b v e1 e2).mono (Mo.write S e) (upd_ne hb)
  · obtain ⟨h1, xs, h2, hm⟩ := S.hid b hb
    exact ⟨h1, xs, (upd_ne fun z : b = a => h1 (z ▸ List.mem_of_getElem? e)).trans h2, hm⟩
  · obtain ⟨u, hu, hm⟩ := S.mem (List.mem_of_getElem? e)
    exact (S.tabs x hx c P q).mono (Mo.write S e) (upd_ne ((S.tabs x hx c P q).ne hu hm))
end

/-- what a stretch of running may do, and what was laid aside stands -/
structure Ext (B : Lo) (H : Hp) (B' : Lo) (H' : Hp) : Prop where
  mo : Mo B H B' H'
  keepH : ∀ b o, H b = some o → b ∈ B.hid → H' b = some o
  sub : ∀ b ∈ B.hid, b ∈ B'.hid
  newL : ∀ b ∈ B'.locs, b ∈ B.locs ∨ H b = none
theorem Ext.refl (B : Lo) (H : Hp) : Ext B H B H := ⟨Mo.refl B H, fun _ _ h _ => h, fun _ h => h, fun _ h => .inl h⟩
theorem Ext.trans {B B1 B2 : Lo} {H H1 H2 : Hp} (a : Ext B H B1 H1) (b : Ext B1 H1 B2 H2) : Ext B H B2 H2 where
  mo := a.mo.trans b.mo
  keepH := fun c o h hc => b.keepH c o (a.keepH c o h hc) (a.sub c hc)
  sub := fun c hc => b.sub c (a.sub c hc)
  newL := fun c hc => by
    rcases b.newL c hc with q | q
    · exact a.newL c q
    · cases e : H c with
      | none => exact .inr rfl
      | some o =>
        by_cases hl : c ∈ B.locs
        · exact .inl hl
        · by_cases hh : c ∈ B.hid
          · rw [a.keepH c o e hh] at q; cases q
          · obtain ⟨u, hu⟩ := a.mo.there e hl hh
            rw [hu] at q; cases q
section
variable {K : PySem.W.Frag} {B B' : Lo} {H H' : Hp} {s : Sto}
theorem Ext.was_none (x : Ext B H B' H') {b : Addr} (h : H' b = none) (hb : b ∉ B.locs) : H b = none := by
  cases e : H b with
  | none => rfl
  | some o =>
    by_cases hh : b ∈ B.hid
    · rw [x.keepH b o e hh] at h; cases h
    · obtain ⟨u, hu⟩ := x.mo.there e hb hh
      rw [hu] at h; cases h
theorem Ext.laid {p : Addr} {o : HO} (h : H p = none) : Ext B H B (upd H p o) :=
  ⟨Mo.laid h, fun b u e _ => by rw [upd_ne (ne_of_none e h)]; exact e, fun _ h => h, fun _ h => .inl h⟩
theorem Ext.aside {p : Addr} {o : HO} (h : H p = none) : Ext B H ⟨B.locs, p :: B.hid⟩ (upd H p o) :=
  ⟨Mo.aside h, fun b u e _ => by rw [upd_ne (ne_of_none e h)]; exact e, fun _ h => List.mem_cons_of_mem _ h, fun _ h => .inl h⟩
theorem Ext.write (S : Sim K B H s) {n : Nat} {a : Addr} {o : HO} (e : B.locs[n]? = some a) : Ext B H B (upd H a o) :=
  ⟨Mo.write S e, fun b u q hb => by
    rw [upd_ne (fun z : b = a => (S.hid b hb).1 (z ▸ List.mem_of_getElem? e))]; exact q, fun _ h => h, fun _ h => .inl h⟩
/-- a thing that came up on the way is changed -/
theorem Ext.rewrite (x : Ext B H B' H') {p : Addr} {o : HO} (h : H p = none) : Ext B H B' (upd H' p o) where
  mo := ⟨x.mo.pre, fun b u e h1 h2 h3 => by rw [upd_ne (ne_of_none e h)]; exact x.mo.keep b u e h1 h2 h3, fun b u e => by rw [upd_ne (ne_of_none e h)]; exact x.mo.tups b u e, fun b u v e => by rw [upd_ne (ne_of_none e h)]; exact x.mo.frzs b u v e, x.mo.new, fun b ps e => by
    obtain ⟨q, hq⟩ := x.mo.tbls b ps e
    exact ⟨q, by rw [upd_ne (ne_of_none e h)]; exact hq⟩⟩
  keepH := fun b u e hb => by rw [upd_ne (ne_of_none e h)]; exact x.keepH b u e hb
  sub := x.sub
  newL := x.newL
theorem Ext.drop {L h : List Addr} {p : Addr} (x : Ext B H ⟨L, p :: h⟩ H') (hs : ∀ b ∈ B.hid, b ∈ h) : Ext B H ⟨L, h⟩ H' :=
  ⟨⟨x.mo.pre, x.mo.keep, x.mo.tups, x.mo.frzs, fun b z => x.mo.new b (z.elim .inl fun z => .inr (List.mem_cons_of_mem _ z)), x.mo.tbls⟩, x.keepH, hs, x.newL⟩
theorem Ext.adopt {L h : List Addr} {p : Addr} (x : Ext B H ⟨L, p :: h⟩ H') (hp : H p = none) (hs : ∀ b ∈ B.hid, b ∈ h) : Ext B H ⟨L ++ [p], h⟩ H' :=
  ⟨⟨x.mo.pre.trans (List.prefix_append _ _), x.mo.keep, x.mo.tups, x.mo.frzs, fun b z => by
    rcases z with z | z
    · rcases List.mem_append.mp z with z | z
      · exact x.mo.new b (.inl z)
      · rw [List.mem_singleton.mp z]; exact .inr (.inr hp)
    · exact x.mo.new b (.inr (List.mem_cons_of_mem _ z)), x.mo.tbls⟩, x.keepH, hs, fun b z => by
    rcases List.mem_append.mp z with z | z
    · exact x.newL b z
    · rw [List.mem_singleton.mp z]; exact .inr hp⟩
end

/-! ### readings by data -/
def RpE (K : PySem.W.Frag) (B : Lo) (H : Hp) (env : En) (σ : L2.St) : Prop := env.length = σ.length ∧ ∀ (i : Nat) (d : Dv), env[i]? = some (some d) → ∃ v, σ[i]? = some (some v) ∧ Rp K B H d v
section
variable {K : PySem.W.Frag} {B B' : Lo} {H H' : Hp} {s s' : Sto} {env : En} {σ : L2.St}
theorem RpE.mono (x : Mo B H B' H') (h : RpE K B H env σ) : RpE K B' H' env σ := ⟨h.1, fun i d e => by
  obtain ⟨v, e1, r⟩ := h.2 i d e
  exact ⟨v, e1, r.mono x⟩⟩
theorem RpE.set (h : RpE K B H env σ) (i : Nat) {d : Dv} {v : V} (r : Rp K B H d v) : RpE K B H (env.set i (some d)) (σ.set i (some v)) := by
  refine ⟨by rw [List.length_set, List.length_set]; exact h.1, fun j e q => ?_⟩
  by_cases hj : i = j
  · subst hj
    have hl : i < env.length := by have := (List.getElem?_eq_some_iff.mp q).1; simpa using this
    rw [List.getElem?_set_self hl] at q
    cases q
    exact ⟨v, List.getElem?_set_self (by rw [← h.1]; exact hl), r⟩
  · rw [List.getElem?_set_ne hj] at q
    rw [List.getElem?_set_ne hj]
    exact h.2 j e q
theorem RpE.unset (h : RpE K B H env σ) (i : Nat) : RpE K B H (env.set i none) (σ.set i none) := by
  refine ⟨by rw [List.length_set, List.length_set]; exact h.1, fun j e q => ?_⟩
  by_cases hj : i = j
  · subst hj
    have hl : i < env.length := by have := (List.getElem?_eq_some_iff.mp q).1; simpa using this
    rw [List.getElem?_set_self hl] at q
    cases q
  · rw [List.getElem?_set_ne hj] at q
    rw [List.getElem?_set_ne hj]
    exact h.2 j e q
end
/-- what is handed on behind: the value, the store -/
def tOf (K : PySem.W.Frag) (f : Fn Dv) : TE := fun σ H Q => ∃ B env s d s', RpE K B H env σ ∧ Sim K B H s ∧ f env s = .ok d s' ∧
  ∀ (B' : Lo) (H' : Hp) (v : V), Ext B H B' H' → B'.hid = B.hid → Sim K B' H' s' → Rp K B' H' d v → Q v H'
/-- a new list that nobody else has -/
def tOfL (K : PySem.W.Frag) (f : Fn (List Dv)) : TE := fun σ H Q => ∃ B env s ds s', RpE K B H env σ ∧ Sim K B H s ∧ f env s = .ok ds s' ∧
  ∀ (B' : Lo) (H' : Hp) (p : Addr) (xs : List V), Ext B H ⟨B'.locs, p :: B'.hid⟩ H' → B'.hid = B.hid → Sim K ⟨B'.locs, p :: B'.hid⟩ H' s' → p ∉ B'.hid → H p = none → H' p = some (.lst xs) → Rps K ⟨B'.locs, p :: B'.hid⟩ H' ds xs → Q (.ref p) H'
def tOfA (K : PySem.W.Frag) (f : Fn (List Dv)) : TA := fun σ H Q => ∃ B env s ds s', RpE K B H env σ ∧ Sim K B H s ∧ f env s = .ok ds s' ∧
  ∀ (B' : Lo) (H' : Hp) (vs : List V), Ext B H B' H' → B'.hid = B.hid → Sim K B' H' s' → Rps K B' H' ds vs → Q vs H'
def tOfT (K : PySem.W.Frag) (f : Fn Bool) : TT := fun σ H Q => ∃ B env s b s', RpE K B H env σ ∧ Sim K B H s ∧ f env s = .ok b s' ∧
  ∀ (B' : Lo) (H' : Hp), Ext B H B' H' → B'.hid = B.hid → Sim K B' H' s' → Q b H'
abbrev ZE (X : Cx) (e : Expr) (f : Fn Dv) : Prop := PE X e (tOf X.K f)
abbrev ZL (X : Cx) (e : Expr) (f : Fn (List Dv)) : Prop := PE X e (tOfL X.K f)
abbrev ZA (X : Cx) (es : List Expr) (f : Fn (List Dv)) : Prop := PA X es (tOfA X.K f)
abbrev ZT (X : Cx) (e : Expr) (f : Fn Bool) : Prop := PT X e (tOfT X.K f)
theorem pe_mono {X : Cx} {e : Expr} {t t' : TE} (h : PE X e t) (hh : ∀ σ H Q, t' σ H Q → t σ H Q) : PE X e t' := ⟨fun pins s σ H Q I q => h.run pins s σ H Q I (hh _ _ _ q)⟩
theorem pe_alt {X : Cx} {e : Expr} {t t' : TE} (h : PE X e t) (h' : PE X e t') : PE X e (fun σ H Q => t σ H Q ∨ t' σ H Q) := ⟨fun pins s σ H Q I q => q.elim (h.run pins s σ H Q I) (h'.run pins s σ H Q I)⟩
theorem pt_mono {X : Cx} {e : Expr} {t t' : TT} (h : PT X e t) (hh : ∀ σ H Q, t' σ H Q → t σ H Q) : PT X e t' := ⟨fun pins s σ H Q I q => h.run pins s σ H Q I (hh _ _ _ q)⟩
theorem pa_mono {X : Cx} {e : List Expr} {t t' : TA} (h : PA X e t) (hh : ∀ σ H Q, t' σ H Q → t σ H Q) : PA X e t' := ⟨fun pos pins s σ H Q I q => h.run pos pins s σ H Q I (hh _ _ _ q)⟩
theorem ps_mono {X : Cx} {e : Stmt} {t t' : TS} (h : PS X e t) (hh : ∀ D σ H, t' D σ H → t D σ H) : PS X e t' := ⟨fun pins s σ H Q I q => h.run pins s σ H Q I (hh _ _ _ q)⟩
theorem ps_alt {X : Cx} {e : Stmt} {t t' : TS} (h : PS X e t) (h' : PS X e t') : PS X e (fun D σ H => t D σ H ∨ t' D σ H) := ⟨fun pins s σ H Q I q => q.elim (h.run pins s σ H Q I) (h'.run pins s σ H Q I)⟩
theorem pg_mono {X : Cx} {e : Expr} {t t' : TG} (h : PG X e t) (hh : ∀ v σ H Q, t' v σ H Q → t v σ H Q) : PG X e t' := ⟨fun pins s σ H v u Q I r q => h.run pins s σ H v u Q I r (hh _ _ _ _ q)⟩
end Z

namespace Z
open PySem PySem.Spec PyProof.Rows L2

/-! ### the context by data -/
/-- what stands behind the top -/
structure Gz where
  prog : Program
  w : World
  K : PySem.W.Frag
  mg : Str → Option Value
  base : Heap
structure Cz (G : Gz) (bs : List Str) (k : Nat) (X : Cx) (N : List Str) (nm : List (Str × NameKind)) (ow : Str → Bool) : Prop where
  hN : X.N = N
  nd : N.Nodup
  kd : X.env.scope.kind = .function
  nm : X.env.scope.names = nm
  ow : X.fn = ow
  calm : X.calm = true
  rm : Room k X.A
  gd : X.A.guards = some []
  bl : ∀ x ∈ bs, X.mg x = none
  gp : X.prog = G.prog
  gw : X.w = G.w
  gK : X.K = G.K
  gm : X.mg = G.mg
  gb : X.base = G.base
  po : PassesOwn (model X.prog X.w) X.A X.env X.xe
/-- the name x stands in place i, to be read -/
def vOk (N : List Str) (nm : List (Str × NameKind)) (i : Nat) (x : Str) : Bool :=
  decide (N[i]? = some x) && (match nm.lookup x with | some .local => true | some .cell => true | some .free => true | _ => false)
/-- .. to be stored -/
def sOk (N : List Str) (nm : List (Str × NameKind)) (ow : Str → Bool) (i : Nat) (x : Str) : Bool :=
  decide (N[i]? = some x) && (match nm.lookup x with | some .local => true | some .cell => ow x | _ => false)
/-- a name of the module or a builtin -/
def gOk (nm : List (Str × NameKind)) (x : Str) : Bool := match nm.lookup x with | some .globalImplicit => true | _ => false
/-- a builtin -/
def bOk (bs : List Str) (nm : List (Str × NameKind)) (x : Str) : Bool := gOk nm x && bs.contains x
section
variable {G : Gz} {bs : List Str} {k : Nat} {X : Cx} {N : List Str} {nm : List (Str × NameKind)} {ow : Str → Bool} {x : Str} {i : Nat} {pos : Pos}
theorem Cz.vis (c : Cz G bs k X N nm ow) (h : vOk N nm i x = true) : X.N[i]? = some x ∧ Vis X.env.scope x := by
  unfold vOk at h
  rw [Bool.and_eq_true] at h
  obtain ⟨h1, h2⟩ := h
  refine ⟨by rw [c.hN]; exact of_decide_eq_true h1, ?_⟩
  unfold Vis
  rw [c.nm]
  split at h2
  · rename_i e; exact .inl e
  · rename_i e; exact .inr (.inl e)
  · rename_i e; exact .inr (.inr e)
  · cases h2
theorem Cz.loc (c : Cz G bs k X N nm ow) (h : sOk N nm ow i x = true) : X.N[i]? = some x ∧ Loc X.env.scope x ∧ (X.fn x = true ∨ X.env.scope.names.lookup x = some .local) := by
  unfold sOk at h
  rw [Bool.and_eq_true] at h
  obtain ⟨h1, h2⟩ := h
  refine ⟨by rw [c.hN]; exact of_decide_eq_true h1, ?_⟩
  unfold L2.Loc
  rw [c.nm, c.ow]
  split at h2
  · rename_i e; exact ⟨.inl e, .inr e⟩
  · rename_i e; exact ⟨.inr e, .inl h2⟩
  · cases h2
theorem Cz.gl (c : Cz G bs k X N nm ow) (h : gOk nm x = true) : Gl X x := by
  unfold gOk at h
  unfold Gl
  show X.env.scope.names.lookup x = _
  rw [c.nm]
  split at h
  · assumption
  · cases h
theorem Cz.blt (c : Cz G bs k X N nm ow) (h : bOk bs nm x = true) : Gl X x ∧ X.mg x = none := by
  unfold bOk at h
  rw [Bool.and_eq_true] at h
  exact ⟨c.gl h.1, c.bl x (List.contains_iff_mem.mp h.2)⟩
theorem Cz.un (c : Cz G bs k X N nm ow) : X.A.units + 64 < cLine := c.rm.units
end

/-! ### names, constants -/
def fVar (i : Nat) : Fn Dv := fun env s => match env[i]? with | some (some d) => .ok d s | _ => .bad
theorem fVar_ok {i : Nat} {env : En} {s s' : Sto} {d : Dv} (h : fVar i env s = .ok d s') : env[i]? = some (some d) ∧ s = s' := by
  unfold fVar at h
  split at h
  · rename_i e
    cases h
    exact ⟨e, rfl⟩
  · cases h
/-- a guard -/
def Rs.iff {α : Type} (c : Bool) (r : Rs α) : Rs α := if c = true then r else .bad
theorem Rs.iff_ok {α : Type} {c : Bool} {r : Rs α} {a : α} {s : Sto} (h : Rs.iff c r = .ok a s) : c = true ∧ r = .ok a s := by
  unfold Rs.iff at h
  split at h
  · exact ⟨by assumption, h⟩
  · cases h
def fC (d : Dv) : Fn Dv := fun _ s => .ok d s
section
variable {G : Gz} {bs : List Str} {k : Nat} {X : Cx} {N : List Str} {nm : List (Str × NameKind)} {ow : Str → Bool} {x : Str} {i : Nat} {pos : Pos} {a b e : Expr} {es : List Expr} {fa fb fc : Fn Dv} {fs : Fn (List Dv)}
theorem z_var (c : Cz G bs k X N nm ow) (h : vOk N nm i x = true) (hd : (x == ("__debug__" : Str)) = false := by decide +kernel) (hcd : (x == ("__classdict__" : Str)) = false := by decide +kernel) : ZE X (.Name x pos) (fVar i) := by
  obtain ⟨h1, h2⟩ := c.vis h
  refine pe_mono (pe_var h1 h2 hd hcd) fun σ H Q q => ?_
  obtain ⟨B, env, s, d, s', hE, hS, hf, hQ⟩ := q
  obtain ⟨e, rfl⟩ := fVar_ok hf
  obtain ⟨v, ev, r⟩ := hE.2 i d e
  exact ⟨v, ev, hQ B H v (Ext.refl _ _) rfl hS r⟩
theorem z_const {v : V} {d : Dv} (h : PE X e (tC v)) (r : ∀ B H, Rp X.K B H d v) : ZE X e (fC d) := by
  refine pe_mono h fun σ H Q q => ?_
  obtain ⟨B, env, s, d', s', hE, hS, hf, hQ⟩ := q
  cases hf
  exact hQ B H v (Ext.refl _ _) rfl hS (r _ _)
theorem z_int {i : Int} {j} : ZE X (.Constant (.int i) j pos) (fC (.int i)) := z_const pe_int fun _ _ => .int i
theorem z_str {i : Str} {j} : ZE X (.Constant (.str i) j pos) (fC (.str i)) := z_const pe_str fun _ _ => .str i
theorem z_bl {i : Bool} {j} : ZE X (.Constant (.bool i) j pos) (fC (.bl i)) := z_const pe_bl fun _ _ => .bl i
theorem z_non {j} : ZE X (.Constant .none j pos) (fC .non) := z_const pe_non fun _ _ => .non

/-! ### displays -/
def fNil : Fn (List Dv) := fun _ s => .ok [] s
def fCons (f : Fn Dv) (g : Fn (List Dv)) : Fn (List Dv) := fun env s => (f env s).bind fun d s1 => (g env s1).bind fun ds s2 => .ok (d :: ds) s2
theorem z_nil : ZA X [] fNil := by
  refine pa_mono pa_nil fun σ H Q q => ?_
  obtain ⟨B, env, s, d', s', hE, hS, hf, hQ⟩ := q
  cases hf
  exact hQ B H [] (Ext.refl _ _) rfl hS .nil
theorem z_cons (ha : ZE X e fa) (hr : ZA X es fs) (hs : starEach (e :: es) X.env = (false, eval e X.env) :: starEach es X.env := by rfl) : ZA X (e :: es) (fCons fa fs) := by
  refine pa_mono (pa_cons ha hr hs) fun σ H Q q => ?_
  obtain ⟨B, env, s, d', s', hE, hS, hf, hQ⟩ := q
  obtain ⟨d, s1, h1, hf⟩ := Rs.bind_ok hf
  obtain ⟨ds, s2, h2, hf⟩ := Rs.bind_ok hf
  cases hf
  refine ⟨B, env, s, d, s1, hE, hS, h1, fun B1 H1 v x1 e1 S1 r1 => ?_⟩
  refine ⟨B1, env, s1, _, _, hE.mono x1.mo, S1, h2, fun B2 H2 vs x2 e2 S2 r2 => ?_⟩
  exact hQ B2 H2 _ (x1.trans x2) (e2.trans e1) S2 (.cons (r1.mono x2.mo) r2)

/-- a new tuple with a plain head -/
theorem tupK_new {pins : List (Addr × Obj)} {σ : L2.St} {H : Hp} {s : Shared} {xs : List V} {us : List Value} {t' : Nat} (I : Inv X pins σ H s) (hz : xs.length ≤ sizeLine) (r : Vals xs us) {Q : VK}
    (q : ∀ p o, H p = none → o.dict = none → Q (.ref p) (upd H p (.frz o (.tup xs)))) : EP X pins σ Q (.ref s.heap.objs.size) { s with heap := s.heap.push { cls := .type "tuple", data := .seq us.toArray }, toks := t' } := by
  have hf : H s.heap.objs.size = none := I.hok.fresh (Nat.le_refl _)
  refine ⟨.ref s.heap.objs.size, upd H s.heap.objs.size (.frz { cls := .type "tuple", data := .seq us.toArray } (.tup xs)), I.laid (t' := t') (fun b u e => Heap.get?_push_of_some _ e) (Nat.le_refl _) ?_, rfl, q _ _ hf rfl⟩
  exact ⟨Heap.get?_push_size _ rfl, hz, us, r, ⟨_, Heap.get?_push_size _ rfl, rfl, _, rfl⟩⟩
def tTupK (t : TA) : TE := fun σ H Q => t σ H fun xs H1 => xs.length ≤ sizeLine ∧ ∀ p o, H1 p = none → o.dict = none → Q (.ref p) (upd H1 p (.frz o (.tup xs)))
theorem pe_tupK {x1 : Nat} {t : TA} (h : PA X es t) : PE X (.Tuple es x1 pos) (tTupK t) := by
  refine ⟨fun pins s σ H Q I hq => ?_⟩
  refine wpAny_Tuple_spliced (thn (h.run pos pins s σ H _ I hq) fun us s1 ⟨xs, H1, I1, r, z, q⟩ => ⟨by rw [← r.length]; exact z, ?_⟩)
  exact tupK_new I1 z r q
def fTup (f : Fn (List Dv)) : Fn Dv := fun env s => (f env s).bind fun ds s1 => Rs.iff (decide (ds.length ≤ 16777216)) (.ok (.tup ds) s1)
/-- what a new tuple brings -/
theorem new_tup {K : PySem.W.Frag} {B : Lo} {H : Hp} {s : Sto} {ds : List Dv} {xs : List V} {Q : VK} (S : Sim K B H s) (r : Rps K B H ds xs)
    (hQ : ∀ (B' : Lo) (H' : Hp) (v : V), Ext B H B' H' → B'.hid = B.hid → Sim K B' H' s → Rp K B' H' (.tup ds) v → Q v H') {p : Addr} {o : Obj} (hp : H p = none) (hd : o.dict = none) : Q (.ref p) (upd H p (.frz o (.tup xs))) :=
  hQ B _ _ (Ext.laid hp) rfl (S.laid hp) (.tup (.inl ⟨o, upd_same, hd⟩) (r.mono (Ext.laid hp).mo))
theorem len_line {n : Nat} (h : n ≤ 16777216) : n ≤ sizeLine := by rw [sizeLine_eq]; exact h
theorem z_tup {x1 : Nat} (h : ZA X es fs) : ZE X (.Tuple es x1 pos) (fTup fs) := by
  refine pe_mono (pe_tupK h) fun σ H Q q => ?_
  obtain ⟨B, env, s, d', s', hE, hS, hf, hQ⟩ := q
  obtain ⟨ds, s1, h1, hf⟩ := Rs.bind_ok hf
  obtain ⟨hz, hf⟩ := Rs.iff_ok hf
  have hz := of_decide_eq_true hz
  cases hf
  refine ⟨B, env, s, _, _, hE, hS, h1, fun B1 H1 xs x1 e1 S1 r1 => ⟨len_line (r1.length ▸ hz), fun p o hp hd => ?_⟩⟩
  exact new_tup S1 r1 (fun B' H' v x e S r => hQ B' H' v (x1.trans x) (e.trans e1) S r) hp hd
theorem new_none {K : PySem.W.Frag} {B B1 B' : Lo} {H H1 H' : Hp} {s : Sto} {p : Addr} (x1 : Ext B H B1 H1) (x : Ext B1 H1 ⟨B'.locs, p :: B'.hid⟩ H') (S : Sim K ⟨B'.locs, p :: B'.hid⟩ H' s) (hn : H1 p = none) : H p = none :=
  x1.was_none hn fun z => (S.hid p List.mem_cons_self).1 (x.mo.pre.subset (x1.mo.pre.subset z))
def fLst (f : Fn (List Dv)) : Fn (List Dv) := fun env s => (f env s).bind fun ds s1 => Rs.iff (decide (ds.length ≤ 16777216)) (.ok ds s1)
/-- what a new list brings -/
theorem new_lst {K : PySem.W.Frag} {B : Lo} {H : Hp} {s : Sto} {ds : List Dv} {xs : List V} {Q : VK} (S : Sim K B H s) (r : Rps K B H ds xs) {p : Addr} (hp : H p = none)
    (hQ : ∀ (B' : Lo) (H' : Hp) (p : Addr) (xs : List V), Ext B H ⟨B'.locs, p :: B'.hid⟩ H' → B'.hid = B.hid → Sim K ⟨B'.locs, p :: B'.hid⟩ H' s → p ∉ B'.hid → H p = none → H' p = some (.lst xs) → Rps K ⟨B'.locs, p :: B'.hid⟩ H' ds xs → Q (.ref p) H') :
    Q (.ref p) (upd H p (.lst xs)) :=
  hQ B _ p xs (Ext.aside hp) rfl (S.aside hp) (S.freeH hp) hp upd_same (r.mono (Ext.aside hp).mo)
theorem z_lst (h : ZA X es fs) : ZL X (.List es pos) (fLst fs) := by
  refine pe_mono (pe_lst h) fun σ H Q q => ?_
  obtain ⟨B, env, s, d', s', hE, hS, hf, hQ⟩ := q
  obtain ⟨ds, s1, h1, hf⟩ := Rs.bind_ok hf
  obtain ⟨hz, hf⟩ := Rs.iff_ok hf
  have hz := of_decide_eq_true hz
  cases hf
  refine ⟨B, env, s, _, _, hE, hS, h1, fun B1 H1 xs x1 e1 S1 r1 => ⟨len_line (r1.length ▸ hz), fun p hp => ?_⟩⟩
  exact new_lst S1 r1 hp fun B' H' p xs x e S hh hn hl r => hQ B' H' p xs (x1.trans x) (e.trans e1) S hh (new_none x1 x S hn) hl r
/-- a new list as a value that nobody changes -/
def fVal (f : Fn (List Dv)) : Fn Dv := fun env s => (f env s).bind fun ds s1 => .ok (.ls ds) s1
theorem z_val {f : Fn (List Dv)} (h : ZL X e f) : ZE X e (fVal f) := by
  refine pe_mono h fun σ H Q q => ?_
  obtain ⟨B, env, s, d', s', hE, hS, hf, hQ⟩ := q
  obtain ⟨ds, s1, h1, hf⟩ := Rs.bind_ok hf
  cases hf
  refine ⟨B, env, s, _, _, hE, hS, h1, fun B1 H1 p xs x1 e1 S1 hh hn hl r1 => ?_⟩
  have S2 := S1.back
  refine hQ ⟨B1.locs, B1.hid⟩ H1 _ (x1.drop fun b hb => by rw [e1]; exact hb) e1 S2 (.ls (.inl ⟨hl, (S1.hid p List.mem_cons_self).1, hh⟩) (r1.mono Mo.back))
/-- .. as a thing of the store -/
def fNew (f : Fn (List Dv)) : Fn Dv := fun env s => (f env s).bind fun ds s1 => .ok (.loc s1.length) (s1 ++ [.lst ds])
theorem z_new {f : Fn (List Dv)} (h : ZL X e f) : ZE X e (fNew f) := by
  refine pe_mono h fun σ H Q q => ?_
  obtain ⟨B, env, s, d', s', hE, hS, hf, hQ⟩ := q
  obtain ⟨ds, s1, h1, hf⟩ := Rs.bind_ok hf
  cases hf
  refine ⟨B, env, s, _, _, hE, hS, h1, fun B1 H1 p xs x1 e1 S1 hh hn hl r1 => ?_⟩
  refine hQ ⟨B1.locs ++ [p], B1.hid⟩ H1 _ (x1.adopt hn fun b hb => by rw [e1]; exact hb) e1 (S1.adopt hh ⟨xs, hl, r1⟩) (.loc ?_)
  rw [← S1.len]
  show (B1.locs ++ [p])[B1.locs.length]? = some p
  rw [List.getElem?_append_right (Nat.le_refl _)]
  simp
end
end Z

namespace Z
open PySem PySem.Spec PyProof.Rows L2

/-! ### operators by data -/
def PostZ (K : PySem.W.Frag) (B : Lo) (H : Hp) (s' : Sto) (d : Dv) (Q : VK) : Prop := ∀ (B' : Lo) (H' : Hp) (v : V), Ext B H B' H' → B'.hid = B.hid → Sim K B' H' s' → Rp K B' H' d v → Q v H'
theorem PostZ.same {K : PySem.W.Frag} {B : Lo} {H : Hp} {s : Sto} {d : Dv} {Q : VK} (h : PostZ K B H s d Q) (S : Sim K B H s) {v : V} (r : Rp K B H d v) : Q v H := h B H v (Ext.refl _ _) rfl S r
def OpZ (K : PySem.W.Frag) (r : R2) (g : Dv → Dv → Sto → Rs Dv) : Prop :=
  ∀ (B : Lo) (H : Hp) (s : Sto) (x y : Dv) (v w : V) (d : Dv) (s' : Sto) (Q : VK), Sim K B H s → Rp K B H x v → Rp K B H y w → g x y s = .ok d s' → PostZ K B H s' d Q → r v w H Q
def fBin (g : Dv → Dv → Sto → Rs Dv) (f1 f2 : Fn Dv) : Fn Dv := fun env s => (f1 env s).bind fun x s1 => (f2 env s1).bind fun y s2 => g x y s2
section
variable {X : Cx} {a b c e : Expr} {es : List Expr} {fa fb fc : Fn Dv} {fs : Fn (List Dv)} {pos : Pos} {g g' : Dv → Dv → Sto → Rs Dv} {r r' : R2}
theorem OpR.or {f : Value → Value → Sem Value} {r r' : R2} (h : OpR X f r) (h' : OpR X f r') : OpR X f (fun x y H Q => r x y H Q ∨ r' x y H Q) := by
  intro pins s σ H x y v u Q I rx ry q
  rcases q with q | q
  · exact h pins s σ H x y v u Q I rx ry q
  · exact h' pins s σ H x y v u Q I rx ry q
theorem bin_to (hg : OpZ X.K r g) : ∀ σ H Q, tOf X.K (fBin g fa fb) σ H Q → tOp r (tOf X.K fa) (tOf X.K fb) σ H Q := fun σ H Q q => by
  obtain ⟨B, env, s, d, s', hE, hS, hf, hQ⟩ := q
  obtain ⟨x, s1, h1, hf⟩ := Rs.bind_ok hf
  obtain ⟨y, s2, h2, hf⟩ := Rs.bind_ok hf
  refine ⟨B, env, s, _, _, hE, hS, h1, fun B1 H1 v x1 e1 S1 r1 => ?_⟩
  refine ⟨B1, env, s1, _, _, hE.mono x1.mo, S1, h2, fun B2 H2 w x2 e2 S2 r2 => ?_⟩
  exact hg B2 H2 s2 x y v w d s' Q S2 (r1.mono x2.mo) r2 hf fun B3 H3 u x3 e3 S3 r3 => hQ B3 H3 u (x1.trans (x2.trans x3)) (e3.trans (e2.trans e1)) S3 r3
theorem z_op {op : Operator} (ho : OpR X (binaryOp op) r) (hg : OpZ X.K r g) (ha : ZE X a fa) (hb : ZE X b fb) : ZE X (.BinOp a op b pos) (fBin g fa fb) := pe_mono (pe_op ho ha hb) (bin_to hg)
theorem z_cmp {op : CmpOp} (ho : OpR X (compareOp op) r) (hg : OpZ X.K r g) (ha : ZE X a fa) (hb : ZE X b fb) (hm : behindInMarks op b = false) : ZE X (.Compare a [op] [b] pos) (fBin g fa fb) := pe_mono (pe_cmpR ho ha hb hm) (bin_to hg)
/-- a truth's truth -/
def fTest (f : Fn Dv) : Fn Bool := fun env s => (f env s).bind fun d s1 => match d with | .bl b => .ok b s1 | _ => .bad
theorem fTest_ok {f : Fn Dv} {env : En} {s s' : Sto} {b : Bool} (h : fTest f env s = .ok b s') : f env s = .ok (.bl b) s' := by
  obtain ⟨d, s1, h1, h⟩ := Rs.bind_ok h
  cases d with
  | bl b' => cases h; exact h1
  | _ => cases h
theorem test_to {t : TE} {f : Fn Dv} (ht : ∀ σ H Q, tOf X.K f σ H Q → t σ H Q) : ∀ σ H Q, tOfT X.K (fTest f) σ H Q → tTest t σ H Q := fun σ H Q q => by
  obtain ⟨B, env, s, b, s', hE, hS, hf, hQ⟩ := q
  refine ht _ _ _ ⟨B, env, s, _, _, hE, hS, fTest_ok hf, fun B1 H1 v x1 e1 S1 r1 => ?_⟩
  cases r1
  exact ⟨b, rfl, hQ B1 H1 x1 e1 S1⟩
theorem z_cmpT {op : CmpOp} (ho : OpR X (compareOp op) r) (hg : OpZ X.K r g) (ha : ZE X a fa) (hb : ZE X b fb) (hm : behindInMarks op b = false) : ZT X (.Compare a [op] [b] pos) (fTest (fBin g fa fb)) :=
  pt_mono (pt_cmpR ho ha hb hm) (test_to (bin_to hg))
theorem z_valT (ha : ZE X a fa) (he : ∀ whole, isTrue a X.env whole = (do let v ← whole; standAt a.pos; holding [v] (truthy v)) := by intro _; rfl) : ZT X a (fTest fa) :=
  pt_mono (pt_val ha he) (test_to fun _ _ _ h => h)
/-- a op b op' c -/
def fChain (g g' : Dv → Dv → Sto → Rs Dv) (f1 f2 f3 : Fn Dv) : Fn Dv := fun env s => (f1 env s).bind fun x s1 => (f2 env s1).bind fun y s2 => (g x y s2).bind fun t s3 => match t with
  | .bl true => (f3 env s3).bind fun z s4 => g' y z s4
  | .bl false => .ok (.bl false) s3
  | _ => .bad
theorem chain_to (hg : OpZ X.K r g) (hg' : OpZ X.K r' g') : ∀ σ H Q, tOf X.K (fChain g g' fa fb fc) σ H Q → tChain r r' (tOf X.K fa) (tOf X.K fb) (tOf X.K fc) σ H Q := fun σ H Q q => by
  obtain ⟨B, env, s, d, s', hE, hS, hf, hQ⟩ := q
  obtain ⟨x, s1, h1, hf⟩ := Rs.bind_ok hf
  obtain ⟨y, s2, h2, hf⟩ := Rs.bind_ok hf
  obtain ⟨t, s3, h3, hf⟩ := Rs.bind_ok hf
  refine ⟨B, env, s, _, _, hE, hS, h1, fun B1 H1 v x1 e1 S1 r1 => ?_⟩
  refine ⟨B1, env, s1, _, _, hE.mono x1.mo, S1, h2, fun B2 H2 w x2 e2 S2 r2 => ?_⟩
  refine hg B2 H2 s2 x y v w t s3 _ S2 (r1.mono x2.mo) r2 h3 fun B3 H3 u x3 e3 S3 r3 => ?_
  cases t with
  | bl k =>
    cases r3
    refine ⟨k, rfl, ?_⟩
    cases k with
    | false =>
      cases hf
      rw [if_neg Bool.false_ne_true]
      exact hQ B3 H3 _ (x1.trans (x2.trans x3)) (e3.trans (e2.trans e1)) S3 (.bl false)
    | true =>
      obtain ⟨z, s4, h4, hf⟩ := Rs.bind_ok hf
      rw [if_pos rfl]
      refine ⟨B3, env, s3, _, _, hE.mono (x1.trans (x2.trans x3)).mo, S3, h4, fun B4 H4 w' x4 e4 S4 r4 => ?_⟩
      exact hg' B4 H4 s4 y z w w' d s' Q S4 (r2.mono (x3.trans x4).mo) r4 hf fun B5 H5 u x5 e5 S5 r5 => hQ B5 H5 u (x1.trans (x2.trans (x3.trans (x4.trans x5)))) (e5.trans (e4.trans (e3.trans (e2.trans e1)))) S5 r5
  | _ => cases hf
theorem z_chainT {op op' : CmpOp} (ho : OpR X (compareOp op) r) (ho' : OpR X (compareOp op') r') (hg : OpZ X.K r g) (hg' : OpZ X.K r' g') (ha : ZE X a fa) (hb : ZE X b fb) (hc : ZE X c fc) (hm : lastMarks [op, op'] [b, c] = false := by with_unfolding_all rfl) :
    ZT X (.Compare a [op, op'] [b, c] pos) (fTest (fChain g g' fa fb fc)) := pt_mono (pt_chain ho ho' ha hb hc hm) (test_to (chain_to hg hg'))

/-! ### and, or, not, if else -/
def fAndT (f g : Fn Bool) : Fn Bool := fun env s => (f env s).bind fun b s1 => if b = true then g env s1 else .ok false s1
def fOrT (f g : Fn Bool) : Fn Bool := fun env s => (f env s).bind fun b s1 => if b = true then .ok true s1 else g env s1
def fNotT (f : Fn Bool) : Fn Bool := fun env s => (f env s).bind fun b s1 => .ok (!b) s1
abbrev ZW (X : Cx) (e : Expr) (f : Fn Bool) : Prop := PW X e (tOfT X.K f)
theorem pw_mono {e : Expr} {t t' : TT} (h : PW X e t) (hh : ∀ σ H Q, t' σ H Q → t σ H Q) : PW X e t' := ⟨fun wh pins s σ H Q I q => h.run wh pins s σ H Q I (hh _ _ _ q)⟩
variable {ta tb : Fn Bool} {rest : List Expr}
theorem w_and1 (ha : ZT X a ta) : ZW X (.BoolOp .And [a] pos) ta := pw_and1 ha
theorem w_or1 (ha : ZT X a ta) : ZW X (.BoolOp .Or [a] pos) ta := pw_or1 ha
theorem w_and (ha : ZT X a ta) (hb : ZW X (.BoolOp .And (b :: rest) pos) tb) : ZW X (.BoolOp .And (a :: b :: rest) pos) (fAndT ta tb) := by
  refine pw_mono (pw_and ha hb) fun σ H Q q => ?_
  obtain ⟨B, env, s, d, s', hE, hS, hf, hQ⟩ := q
  obtain ⟨x, s1, h1, hf⟩ := Rs.bind_ok hf
  refine ⟨B, env, s, _, _, hE, hS, h1, fun B1 H1 x1 e1 S1 => ?_⟩
  split at hf
  · rename_i hx
    rw [if_pos hx]
    exact ⟨B1, env, s1, _, _, hE.mono x1.mo, S1, hf, fun B2 H2 x2 e2 S2 => hQ B2 H2 (x1.trans x2) (e2.trans e1) S2⟩
  · rename_i hx
    rw [if_neg hx]
    cases hf
    exact hQ B1 H1 x1 e1 S1
theorem w_or (ha : ZT X a ta) (hb : ZW X (.BoolOp .Or (b :: rest) pos) tb) : ZW X (.BoolOp .Or (a :: b :: rest) pos) (fOrT ta tb) := by
  refine pw_mono (pw_or ha hb) fun σ H Q q => ?_
  obtain ⟨B, env, s, d, s', hE, hS, hf, hQ⟩ := q
  obtain ⟨x, s1, h1, hf⟩ := Rs.bind_ok hf
  refine ⟨B, env, s, _, _, hE, hS, h1, fun B1 H1 x1 e1 S1 => ?_⟩
  split at hf
  · rename_i hx
    rw [if_pos hx]
    cases hf
    exact hQ B1 H1 x1 e1 S1
  · rename_i hx
    rw [if_neg hx]
    exact ⟨B1, env, s1, _, _, hE.mono x1.mo, S1, hf, fun B2 H2 x2 e2 S2 => hQ B2 H2 (x1.trans x2) (e2.trans e1) S2⟩
theorem z_wT (h : ZW X e ta) : ZT X e ta := h.pt
theorem z_notT (ha : ZT X a ta) : ZT X (.UnaryOp .Not a pos) (fNotT ta) := by
  refine pt_mono (pt_not ha) fun σ H Q q => ?_
  obtain ⟨B, env, s, d, s', hE, hS, hf, hQ⟩ := q
  obtain ⟨x, s1, h1, hf⟩ := Rs.bind_ok hf
  refine ⟨B, env, s, _, _, hE, hS, h1, fun B1 H1 x1 e1 S1 => ?_⟩
  cases hf
  exact hQ B1 H1 x1 e1 S1
def fAnd (f g : Fn Dv) : Fn Dv := fun env s => (fTest f env s).bind fun b s1 => if b = true then g env s1 else .ok (.bl false) s1
def fOr (f g : Fn Dv) : Fn Dv := fun env s => (fTest f env s).bind fun b s1 => if b = true then .ok (.bl true) s1 else g env s1
def fNot (f : Fn Dv) : Fn Dv := fun env s => (fTest f env s).bind fun b s1 => .ok (.bl (!b)) s1
theorem z_one {op} (h : ZE X a fa) : ZE X (.BoolOp op [a] pos) fa := pe_one h
theorem z_and (ha : ZE X a fa) (hb : ZE X (.BoolOp .And (b :: rest) pos) fb) : ZE X (.BoolOp .And (a :: b :: rest) pos) (fAnd fa fb) := by
  refine pe_mono (pe_and ha hb) fun σ H Q q => ?_
  obtain ⟨B, env, s, d, s', hE, hS, hf, hQ⟩ := q
  obtain ⟨x, s1, h1, hf⟩ := Rs.bind_ok hf
  refine ⟨B, env, s, _, _, hE, hS, fTest_ok h1, fun B1 H1 v x1 e1 S1 r1 => ?_⟩
  cases r1
  refine ⟨x, rfl, ?_⟩
  split at hf
  · rename_i hx
    rw [if_pos hx]
    exact ⟨B1, env, s1, _, _, hE.mono x1.mo, S1, hf, fun B2 H2 v x2 e2 S2 r2 => hQ B2 H2 v (x1.trans x2) (e2.trans e1) S2 r2⟩
  · rename_i hx
    rw [if_neg hx]
    cases hf
    exact hQ B1 H1 _ x1 e1 S1 (.bl false)
theorem z_not (ha : ZE X a fa) : ZE X (.UnaryOp .Not a pos) (fNot fa) := by
  refine pe_mono (pe_not ha) fun σ H Q q => ?_
  obtain ⟨B, env, s, d, s', hE, hS, hf, hQ⟩ := q
  obtain ⟨x, s1, h1, hf⟩ := Rs.bind_ok hf
  refine ⟨B, env, s, _, _, hE, hS, fTest_ok h1, fun B1 H1 v x1 e1 S1 r1 => ?_⟩
  cases r1
  cases hf
  exact ⟨x, rfl, hQ B1 H1 _ x1 e1 S1 (.bl _)⟩
def fIf (t : Fn Bool) (f g : Fn Dv) : Fn Dv := fun env s => (t env s).bind fun b s1 => if b = true then f env s1 else g env s1
theorem z_if (hc : ZT X c ta) (ha : ZE X a fa) (hb : ZE X b fb) : ZE X (.IfExp c a b pos) (fIf ta fa fb) := by
  refine pe_mono (pe_ifExp hc ha hb) fun σ H Q q => ?_
  obtain ⟨B, env, s, d, s', hE, hS, hf, hQ⟩ := q
  obtain ⟨x, s1, h1, hf⟩ := Rs.bind_ok hf
  refine ⟨B, env, s, _, _, hE, hS, h1, fun B1 H1 x1 e1 S1 => ?_⟩
  split at hf
  · rename_i hx
    rw [if_pos hx]
    exact ⟨B1, env, s1, _, _, hE.mono x1.mo, S1, hf, fun B2 H2 v x2 e2 S2 r2 => hQ B2 H2 v (x1.trans x2) (e2.trans e1) S2 r2⟩
  · rename_i hx
    rw [if_neg hx]
    exact ⟨B1, env, s1, _, _, hE.mono x1.mo, S1, hf, fun B2 H2 v x2 e2 S2 r2 => hQ B2 H2 v (x1.trans x2) (e2.trans e1) S2 r2⟩
/-- one thing in, by its rule -/
def UnZ (K : PySem.W.Frag) (r : V → Hp → VK → Prop) (g : Dv → Sto → Rs Dv) : Prop :=
  ∀ (B : Lo) (H : Hp) (s : Sto) (x : Dv) (v : V) (d : Dv) (s' : Sto) (Q : VK), Sim K B H s → Rp K B H x v → g x s = .ok d s' → PostZ K B H s' d Q → r v H Q
def fUn (g : Dv → Sto → Rs Dv) (f : Fn Dv) : Fn Dv := fun env s => (f env s).bind fun x s1 => g x s1
theorem z_un {op : UnaryOp} {r : V → Hp → VK → Prop} {g : Dv → Sto → Rs Dv} (ho : UnR X (unaryOp op) r) (hg : UnZ X.K r g) (ha : ZE X a fa) : ZE X (.UnaryOp op a pos) (fUn g fa) := by
  refine pe_mono (pe_un ho ha) fun σ H Q q => ?_
  obtain ⟨B, env, s, d, s', hE, hS, hf, hQ⟩ := q
  obtain ⟨x, s1, h1, hf⟩ := Rs.bind_ok hf
  refine ⟨B, env, s, _, _, hE, hS, h1, fun B1 H1 v x1 e1 S1 r1 => ?_⟩
  exact hg B1 H1 s1 x v d s' Q S1 r1 hf fun B2 H2 u x2 e2 S2 r2 => hQ B2 H2 u (x1.trans x2) (e2.trans e1) S2 r2
end

/-! ### the operators themselves -/
def gI (g : Int → Int → Dv) : Dv → Dv → Sto → Rs Dv := fun x y s => match x, y with | .int i, .int j => .ok (g i j) s | _, _ => .bad
def gIc (c : Int → Int → Bool) (g : Int → Int → Dv) : Dv → Dv → Sto → Rs Dv := fun x y s => match x, y with | .int i, .int j => Rs.iff (c i j) (.ok (g i j) s) | _, _ => .bad
theorem gI_ok {g : Int → Int → Dv} {x y d : Dv} {s s' : Sto} (h : gI g x y s = .ok d s') : ∃ i j, x = .int i ∧ y = .int j ∧ d = g i j ∧ s' = s := by
  unfold gI at h
  split at h
  · cases h; exact ⟨_, _, rfl, rfl, rfl, rfl⟩
  · cases h
theorem gIc_ok {c : Int → Int → Bool} {g : Int → Int → Dv} {x y d : Dv} {s s' : Sto} (h : gIc c g x y s = .ok d s') : ∃ i j, x = .int i ∧ y = .int j ∧ c i j = true ∧ d = g i j ∧ s' = s := by
  unfold gIc at h
  split at h
  · obtain ⟨h1, h2⟩ := Rs.iff_ok h
    cases h2; exact ⟨_, _, rfl, rfl, h1, rfl, rfl⟩
  · cases h
section
variable {K : PySem.W.Frag}
theorem oz_int {f : Int → Int → Int} : OpZ K (rI0 fun i j => .int (f i j)) (gI fun i j => .int (f i j)) := by
  intro B H s x y v w d s' Q S rx ry h q
  obtain ⟨i, j, rfl, rfl, rfl, rfl⟩ := gI_ok h
  cases rx; cases ry
  exact ⟨i, j, rfl, rfl, q.same S (.int _)⟩
theorem oz_intC {C : Int → Int → Prop} {c : Int → Int → Bool} {f : Int → Int → Int} (hc : ∀ i j, c i j = true → C i j) : OpZ K (rI C fun i j => .int (f i j)) (gIc c fun i j => .int (f i j)) := by
  intro B H s x y v w d s' Q S rx ry h q
  obtain ⟨i, j, rfl, rfl, hcc, rfl, rfl⟩ := gIc_ok h
  cases rx; cases ry
  exact ⟨i, j, rfl, rfl, hc _ _ hcc, q.same S (.int _)⟩
def cDiv (_ j : Int) : Bool := decide (0 < j) && decide (j < 2 ^ 64)
def cMod (_ j : Int) : Bool := decide (0 < j)
def cPow (i j : Int) : Bool := decide (0 ≤ j) && decide (j ≤ 1000000) && decide (-(2 ^ 64) < i) && decide (i < 2 ^ 64)
def cMul (i j : Int) : Bool := (decide (-(2 ^ 64) < i) && decide (i < 2 ^ 64)) || (decide (-(2 ^ 64) < j) && decide (j < 2 ^ 64))
theorem cDiv_ok (i j : Int) (h : cDiv i j = true) : CDivW i j := by
  unfold cDiv at h
  simp only [Bool.and_eq_true, decide_eq_true_eq] at h
  exact wide_div (b := 64) h.1 (by omega) (by decide) (by decide)
theorem cMod_ok (i j : Int) (h : cMod i j = true) : 0 < j := of_decide_eq_true h
theorem cPow_ok (i j : Int) (h : cPow i j = true) : CPow i j := by
  unfold cPow at h
  simp only [Bool.and_eq_true, decide_eq_true_eq] at h
  exact ⟨h.1.1.1, h.1.1.2, by omega⟩
theorem cMul_ok (i j : Int) (h : cMul i j = true) : CMul i j := by
  unfold cMul at h
  simp only [Bool.or_eq_true, Bool.and_eq_true, decide_eq_true_eq] at h
  exact h
/-- + of ints, texts, tuples -/
def gAdd (x y : Dv) (s : Sto) : Rs Dv := match x, y with
  | .int i, .int j => .ok (.int (i + j)) s
  | .str a, .str b => Rs.iff (decide (a.length + b.length ≤ 16777216)) (.ok (.str (a ++ b)) s)
  | .tup a, .tup b => Rs.iff (decide (a.length + b.length ≤ 16777216)) (.ok (.tup (a ++ b)) s)
  | _, _ => .bad
def rCatZ (K : PySem.W.Frag) : R2 := fun x y H Q => ∃ a b xs ys, x = .ref a ∧ y = .ref b ∧ SqT K H a xs ∧ SqT K H b ys ∧ xs.length + ys.length ≤ sizeLine ∧
  (xs = [] → Q (.ref b) H) ∧ (xs ≠ [] → ys = [] → Q (.ref a) H) ∧ (xs ≠ [] → ys ≠ [] → ∀ p o, H p = none → o.dict = none → Q (.ref p) (upd H p (.frz o (.tup (xs ++ ys)))))
theorem op_catZ {X : Cx} : OpR X (binaryOp .Add) (rCatZ X.K) := by
  intro pins s σ H x y v u Q I rx ry h
  obtain ⟨a, b, xs, ys, rfl, rfl, ha, hb, hz, q0, q1, q2⟩ := h
  cases rx
  cases ry
  obtain ⟨its, r1, p1, _⟩ := I.tuple ha
  obtain ⟨its2, r2, p2, _⟩ := I.tuple hb
  by_cases hx : xs = []
  · subst hx
    cases r1
    exact L2.cat_tup0 p1 p2 ⟨.ref b, H, I, rfl, q0 rfl⟩
  · refine HT.cat_tup p1 p2 (fun z => hx (r1.nil_iff.mp z)) (fun z => ⟨.ref a, H, I, rfl, q1 hx (r2.nil_iff.mp z)⟩) (fun z => ?_) (by rw [← r1.length, ← r2.length]; exact hz)
    exact tupK_new I (by rw [List.length_append]; exact hz) (r1.append r2) (q2 hx fun w => z (r2.nil_iff.mpr w))
def rAddZ (K : PySem.W.Frag) : R2 := fun x y H Q => ((rI0 (fun i j => .int (i + j)) x y H Q) ∨ (∃ i j : Str, x = .str i ∧ y = .str j ∧ i.length + j.length ≤ sizeLine ∧ Q (.str (i ++ j)) H)) ∨ rCatZ K x y H Q
theorem op_addZ {X : Cx} : OpR X (binaryOp .Add) (rAddZ X.K) := OpR.or (OpR.or op_add op_add_str) op_catZ
theorem oz_add : OpZ K (rAddZ K) gAdd := by
  intro B H s x y v w d s' Q S rx ry h q
  unfold gAdd at h
  split at h
  · cases h
    cases rx; cases ry
    exact .inl (.inl ⟨_, _, rfl, rfl, q.same S (.int _)⟩)
  · obtain ⟨hz, h⟩ := Rs.iff_ok h
    cases h
    cases rx; cases ry
    exact .inl (.inr ⟨_, _, rfl, rfl, len_line (of_decide_eq_true hz), q.same S (.str _)⟩)
  · obtain ⟨hz, h⟩ := Rs.iff_ok h
    cases h
    cases rx with
    | tup h1 r1 =>
      cases ry with
      | tup h2 r2 =>
        rename_i a xs b ys
        refine .inr ⟨_, _, _, _, rfl, rfl, h1.sq, h2.sq, len_line (by rw [← r1.length, ← r2.length]; exact of_decide_eq_true hz), fun e => ?_, fun _ e => ?_, fun _ _ p o hp hd => ?_⟩
        · subst e
          cases r1
          exact q.same S (.tup h2 r2)
        · subst e
          cases r2
          refine q.same S (.tup h1 ?_)
          rw [List.append_nil]; exact r1
        · exact new_tup S (r1.append r2) q hp hd
  · cases h
/-- * of ints, of a tuple and an int -/
def gMul (x y : Dv) (s : Sto) : Rs Dv := match x, y with
  | .int i, .int j => Rs.iff (cMul i j) (.ok (.int (i * j)) s)
  | _, _ => .bad
theorem oz_mul : OpZ K (rI CMul fun i j => .int (i * j)) gMul := oz_intC (c := cMul) (f := fun i j => i * j) cMul_ok
end
section
variable {G : Gz} {bs : List Str} {k : Nat} {X : Cx} {N : List Str} {nm : List (Str × NameKind)} {ow : Str → Bool} {a b c e : Expr} {fa fb fc : Fn Dv} {pos : Pos}
def gSub := gI fun i j => .int (i - j)
def gDiv := gIc cDiv fun i j => .int (i / j)
def gMod := gIc cMod fun i j => .int (i % j)
def gPow := gIc cPow fun i j => .int (i ^ j.toNat)
theorem z_add (ha : ZE X a fa) (hb : ZE X b fb) : ZE X (.BinOp a .Add b pos) (fBin gAdd fa fb) := z_op op_addZ oz_add ha hb
theorem z_sub (ha : ZE X a fa) (hb : ZE X b fb) : ZE X (.BinOp a .Sub b pos) (fBin gSub fa fb) := z_op op_sub oz_int ha hb
theorem z_mul (ha : ZE X a fa) (hb : ZE X b fb) : ZE X (.BinOp a .Mult b pos) (fBin gMul fa fb) := z_op op_mul oz_mul ha hb
theorem z_div (ha : ZE X a fa) (hb : ZE X b fb) : ZE X (.BinOp a .FloorDiv b pos) (fBin gDiv fa fb) := z_op op_fdivW (oz_intC cDiv_ok) ha hb
theorem z_mod (ha : ZE X a fa) (hb : ZE X b fb) : ZE X (.BinOp a .Mod b pos) (fBin gMod fa fb) := z_op op_mod (oz_intC cMod_ok) ha hb
theorem z_pow (ha : ZE X a fa) (hb : ZE X b fb) : ZE X (.BinOp a .Pow b pos) (fBin gPow fa fb) := z_op op_pow (oz_intC cPow_ok) ha hb
def gNeg (x : Dv) (s : Sto) : Rs Dv := match x with | .int i => .ok (.int (-i)) s | _ => .bad
theorem z_neg (ha : ZE X a fa) : ZE X (.UnaryOp .USub a pos) (fUn gNeg fa) := z_un un_neg (fun B H s x v d s' Q S rx h q => by
  cases x with
  | int i => cases h; cases rx; exact ⟨i, rfl, q.same S (.int _)⟩
  | _ => cases h) ha
end
end Z

namespace Z
open PySem PySem.Spec PyProof.Rows L2

/-! ### data of any depth -/
def py (s : Sto) : Nat → Dv → Option PyData
  | 0, _ => none
  | k + 1, d => match d with
    | .non => some .none
    | .bl b => some (.bool b)
    | .int i => some (.int i)
    | .str x => some (.str x)
    | .tup ds => (ds.mapM (py s k)).map .tuple
    | .ls ds => (ds.mapM (py s k)).map .list
    | .xn .. => none
    | .loc n => match s[n]? with
      | some (.lst ds) => (ds.mapM (py s k)).map .list
      | _ => none
abbrev pyOf (s : Sto) (d : Dv) : Option PyData := py s 40 d
theorem mapM_cons_some {α β : Type} {f : α → Option β} {a : α} {l : List α} {ys : List β} (h : (a :: l).mapM f = some ys) : ∃ y r, f a = some y ∧ l.mapM f = some r ∧ ys = y :: r := by
  rw [List.mapM_cons] at h
  cases e : f a with
  | none => rw [e] at h; cases h
  | some y =>
    rw [e] at h
    cases e2 : l.mapM f with
    | none => simp [e2] at h
    | some r => simp [e2] at h; exact ⟨y, r, rfl, rfl, h.symm⟩
section
variable {K : PySem.W.Frag} {B : Lo} {H : Hp} {s : Sto}
theorem dpAll_of {f : Dv → Option PyData} (hf : ∀ d v p, Rp K B H d v → f d = some p → Dp K H v p) : ∀ {ds : List Dv} {vs : List V} {ps : List PyData}, Rps K B H ds vs → ds.mapM f = some ps → DpAll K H vs ps
  | _, _, _, .nil, h => by simp at h; subst h; exact .nil
  | _, _, _, .cons h r, e => by
    obtain ⟨y, t, h1, h2, rfl⟩ := mapM_cons_some e
    exact .cons (hf _ _ _ h h1) (dpAll_of hf r h2)
theorem dp_of (S : Sim K B H s) : ∀ (k : Nat) (d : Dv) (v : V) (p : PyData), Rp K B H d v → py s k d = some p → Dp K H v p
  | 0, _, _, _, _, h => by cases h
  | k + 1, d, v, p, r, h => by
    cases r with
    | non => cases h; exact .non
    | bl b => cases h; exact .bl b
    | int i => cases h; exact .int i
    | str x => cases h; exact .str x
    | tup h1 h2 =>
      obtain ⟨ps, h3, rfl⟩ := Option.map_eq_some_iff.mp h
      exact .tup h1.sq (dpAll_of (dp_of S k) h2 h3)
    | ls h1 h2 =>
      obtain ⟨ps, h3, rfl⟩ := Option.map_eq_some_iff.mp h
      exact .lst h1.sq (dpAll_of (dp_of S k) h2 h3)
    | xn => cases h
    | loc h1 =>
      rename_i n a
      obtain ⟨o, ho, ro⟩ := S.at h1
      have h' : (match s[n]? with | some (.lst ds) => (ds.mapM (py s k)).map .list | _ => none) = some p := h
      rw [ho] at h'
      cases o with
      | lst ds =>
        obtain ⟨xs, e1, e2⟩ := ro
        obtain ⟨ps, h3, rfl⟩ := Option.map_eq_some_iff.mp h'
        exact .lst (.of e1) (dpAll_of (dp_of S k) e2 h3)
      | _ => cases h'
end

/-! ### comparisons -/
def gEq (x y : Dv) (s : Sto) : Rs Dv := match x, y with
  | .int i, .int j => .ok (.bl (i == j)) s
  | .str i, .str j => .ok (.bl (i == j)) s
  | .bl i, .bl j => .ok (.bl (i == j)) s
  | .non, .non => .ok (.bl true) s
  | x, y => match pyOf s x, pyOf s y with
    | some p, some q => Rs.iff (SeqAt.shaped p && SeqAt.shaped q) (.ok (.bl (PyData.eqv p q)) s)
    | _, _ => .bad
def gNot (g : Dv → Dv → Sto → Rs Dv) : Dv → Dv → Sto → Rs Dv := fun x y s => (g x y s).bind fun d s1 => match d with | .bl b => .ok (.bl (!b)) s1 | _ => .bad
def gNe := gNot gEq
def rEqZ (K : PySem.W.Frag) : R2 := fun x y H Q => rEq x y H Q ∨ rEqD K x y H Q
def rNeZ (K : PySem.W.Frag) : R2 := fun x y H Q => rNe x y H Q ∨ rNeD K x y H Q
theorem gEq_cases {x y d : Dv} {s s' : Sto} (h : gEq x y s = .ok d s') : s' = s ∧ ((∃ i j, x = .int i ∧ y = .int j ∧ d = .bl (i == j)) ∨ (∃ i j, x = .str i ∧ y = .str j ∧ d = .bl (i == j)) ∨ (∃ i j, x = .bl i ∧ y = .bl j ∧ d = .bl (i == j)) ∨ (x = .non ∧ y = .non ∧ d = .bl true) ∨
    ∃ p q, pyOf s x = some p ∧ pyOf s y = some q ∧ SeqAt.shaped p = true ∧ SeqAt.shaped q = true ∧ d = .bl (PyData.eqv p q)) := by
  unfold gEq at h
  split at h
  · cases h; exact ⟨rfl, .inl ⟨_, _, rfl, rfl, rfl⟩⟩
  · cases h; exact ⟨rfl, .inr (.inl ⟨_, _, rfl, rfl, rfl⟩)⟩
  · cases h; exact ⟨rfl, .inr (.inr (.inl ⟨_, _, rfl, rfl, rfl⟩))⟩
  · cases h; exact ⟨rfl, .inr (.inr (.inr (.inl ⟨rfl, rfl, rfl⟩)))⟩
  · split at h
    · rename_i e1 e2
      obtain ⟨h1, h2⟩ := Rs.iff_ok h
      rw [Bool.and_eq_true] at h1
      cases h2
      exact ⟨rfl, .inr (.inr (.inr (.inr ⟨_, _, e1, e2, h1.1, h1.2, rfl⟩)))⟩
    · cases h
theorem oz_eq {K : PySem.W.Frag} : OpZ K (rEqZ K) gEq := by
  intro B H s x y v w d s' Q S rx ry h q
  obtain ⟨rfl, h⟩ := gEq_cases h
  rcases h with ⟨i, j, rfl, rfl, rfl⟩ | ⟨i, j, rfl, rfl, rfl⟩ | ⟨i, j, rfl, rfl, rfl⟩ | ⟨rfl, rfl, rfl⟩ | ⟨p, t, h1, h2, h3, h4, rfl⟩
  · cases rx; cases ry
    refine .inl ⟨rfl, ?_⟩
    rw [dec_int]; exact q.same S (.bl _)
  · cases rx; cases ry
    refine .inl ⟨rfl, ?_⟩
    rw [dec_str]; exact q.same S (.bl _)
  · cases rx; cases ry
    refine .inl ⟨rfl, ?_⟩
    rw [dec_bl]; exact q.same S (.bl _)
  · cases rx; cases ry
    exact .inl ⟨rfl, q.same S (.bl _)⟩
  · exact .inr ⟨p, t, dp_of S _ _ _ _ rx h1, dp_of S _ _ _ _ ry h2, h3, h4, q.same S (.bl _)⟩
theorem oz_ne {K : PySem.W.Frag} : OpZ K (rNeZ K) gNe := by
  intro B H s x y v w d s' Q S rx ry h q
  obtain ⟨b, s1, h, h5⟩ := Rs.bind_ok h
  obtain ⟨rfl, h⟩ := gEq_cases h
  rcases h with ⟨i, j, rfl, rfl, rfl⟩ | ⟨i, j, rfl, rfl, rfl⟩ | ⟨i, j, rfl, rfl, rfl⟩ | ⟨rfl, rfl, rfl⟩ | ⟨p, t, h1, h2, h3, h4, rfl⟩
  · cases rx; cases ry; cases h5
    refine .inl ⟨rfl, ?_⟩
    rw [dec_int]; exact q.same S (.bl _)
  · cases rx; cases ry; cases h5
    refine .inl ⟨rfl, ?_⟩
    rw [dec_str]; exact q.same S (.bl _)
  · cases rx; cases ry; cases h5
    refine .inl ⟨rfl, ?_⟩
    rw [dec_bl]; exact q.same S (.bl _)
  · cases rx; cases ry; cases h5
    exact .inl ⟨rfl, q.same S (.bl _)⟩
  · cases h5
    exact .inr ⟨p, t, dp_of S _ _ _ _ rx h1, dp_of S _ _ _ _ ry h2, h3, h4, q.same S (.bl _)⟩
/-- order of ints, of texts -/
def gOrd (f : Int → Int → Bool) (h : Str → Str → Bool) (x y : Dv) (s : Sto) : Rs Dv := match x, y with
  | .int i, .int j => .ok (.bl (f i j)) s
  | .str i, .str j => .ok (.bl (h i j)) s
  | _, _ => .bad
def strLt (i j : Str) : Bool := decide (i.cps.toList < j.cps.toList)
def rOrd (f : Int → Int → Bool) (h : Str → Str → Bool) : R2 := fun x y H Q => rI0 (fun i j => .bl (f i j)) x y H Q ∨ ∃ i j, x = .str i ∧ y = .str j ∧ Q (.bl (h i j)) H
theorem oz_ord {K : PySem.W.Frag} {f : Int → Int → Bool} {g : Str → Str → Bool} : OpZ K (rOrd f g) (gOrd f g) := by
  intro B H s x y v w d s' Q S rx ry h q
  unfold gOrd at h
  split at h
  · cases h; cases rx; cases ry
    exact .inl ⟨_, _, rfl, rfl, q.same S (.bl _)⟩
  · cases h; cases rx; cases ry
    exact .inr ⟨_, _, rfl, rfl, q.same S (.bl _)⟩
  · cases h
def gLt := gOrd (fun i j => decide (i < j)) strLt
def gLe := gOrd (fun i j => decide (i ≤ j)) (fun i j => !strLt j i)
def gGt := gOrd (fun i j => decide (j < i)) (fun i j => strLt j i)
def gGe := gOrd (fun i j => decide (j ≤ i)) (fun i j => !strLt i j)
section
variable {X : Cx}
theorem or_lt : OpR X (compareOp .Lt) (rOrd (fun i j => decide (i < j)) strLt) := OpR.or op_lt op_lt_str
theorem or_le : OpR X (compareOp .LtE) (rOrd (fun i j => decide (i ≤ j)) (fun i j => !strLt j i)) := OpR.or op_le op_le_str
theorem or_gt : OpR X (compareOp .Gt) (rOrd (fun i j => decide (j < i)) (fun i j => strLt j i)) := OpR.or op_gt op_gt_str
theorem or_ge : OpR X (compareOp .GtE) (rOrd (fun i j => decide (j ≤ i)) (fun i j => !strLt i j)) := OpR.or op_ge op_ge_str
end
/-- is, is not: None, truths -/
def gIs (x y : Dv) (s : Sto) : Rs Dv := match x, y with
  | .bl i, .bl j => .ok (.bl (i == j)) s
  | .non, .non => .ok (.bl true) s
  | _, .non => .ok (.bl false) s
  | _, _ => .bad
def gIsNot := gNot gIs
end Z

namespace Z
open PySem PySem.Spec PyProof.Rows L2
def rIsZ : R2 := fun x y H Q => (y = .non ∧ Q (.bl (decide (x = .non))) H) ∨ rIsB x y H Q
def rIsNotZ : R2 := fun x y H Q => (y = .non ∧ Q (.bl (!decide (x = .non))) H) ∨ rNotB x y H Q
/-! ### sequences -/
/-- what a list or a tuple holds -/
def seqOf (s : Sto) : Dv → Option (List Dv)
  | .tup ds => some ds
  | .ls ds => some ds
  | .loc n => match s[n]? with
    | some (.lst ds) => some ds
    | _ => none
  | _ => none
theorem seq_of {K : PySem.W.Frag} {B : Lo} {H : Hp} {s : Sto} (S : Sim K B H s) {d : Dv} {v : V} {ds : List Dv} (r : Rp K B H d v) (h : seqOf s d = some ds) : ∃ a xs, v = .ref a ∧ (SqL K H a xs ∨ SqT K H a xs) ∧ Rps K B H ds xs := by
  cases r with
  | tup h1 h2 => cases h; exact ⟨_, _, rfl, .inr h1.sq, h2⟩
  | ls h1 h2 => cases h; exact ⟨_, _, rfl, .inl h1.sq, h2⟩
  | loc h1 =>
    rename_i n a
    obtain ⟨o, ho, ro⟩ := S.at h1
    have h' : (match s[n]? with | some (.lst ds) => some ds | _ => none) = some ds := h
    rw [ho] at h'
    cases o with
    | lst es =>
      cases h'
      obtain ⟨xs, e1, e2⟩ := ro
      exact ⟨_, xs, rfl, .inl (.of e1), e2⟩
    | _ => cases h'
  | _ => cases h
/-- flat things -/
def fV : Dv → Option V
  | .non => some .non
  | .bl b => some (.bl b)
  | .int i => some (.int i)
  | .str x => some (.str x)
  | _ => none
theorem fV_of {K : PySem.W.Frag} {B : Lo} {H : Hp} {d : Dv} {v u : V} (r : Rp K B H d v) (h : fV d = some u) : v = u ∧ flatV u = true := by
  cases r <;> cases h <;> exact ⟨rfl, rfl⟩
theorem fVs_of {K : PySem.W.Frag} {B : Lo} {H : Hp} : ∀ {ds : List Dv} {vs us : List V}, Rps K B H ds vs → ds.mapM fV = some us → vs = us ∧ us.all flatV = true
  | _, _, _, .nil, h => by simp at h; subst h; exact ⟨rfl, rfl⟩
  | _, _, _, .cons r rr, h => by
    obtain ⟨y, t, h1, h2, rfl⟩ := mapM_cons_some h
    obtain ⟨rfl, e1⟩ := fV_of r h1
    obtain ⟨rfl, e2⟩ := fVs_of rr h2
    exact ⟨rfl, by simp [e1, e2]⟩
def gIn (x y : Dv) (s : Sto) : Rs Dv := match x, y with
  | .str a, .str b => .ok (.bl (!(Builtin.Str.occurrences b a 0 b.length 1).isEmpty)) s
  | x, y => match fV x, (seqOf s y).bind (·.mapM fV) with
    | some v, some vs => .ok (.bl (inV v vs)) s
    | _, _ => .bad
def gNotIn := gNot gIn
theorem gIn_cases {x y d : Dv} {s s' : Sto} (h : gIn x y s = .ok d s') : s' = s ∧ ((∃ a b, x = .str a ∧ y = .str b ∧ d = .bl (!(Builtin.Str.occurrences b a 0 b.length 1).isEmpty)) ∨
    ∃ v ds vs, fV x = some v ∧ seqOf s y = some ds ∧ ds.mapM fV = some vs ∧ d = .bl (inV v vs)) := by
  unfold gIn at h
  split at h
  · cases h; exact ⟨rfl, .inl ⟨_, _, rfl, rfl, rfl⟩⟩
  · split at h
    · rename_i v vs e1 e2
      obtain ⟨ds, e3, e4⟩ := Option.bind_eq_some_iff.mp e2
      cases h; exact ⟨rfl, .inr ⟨v, ds, vs, e1, e3, e4, rfl⟩⟩
    · cases h
def rInZ (K : PySem.W.Frag) : R2 := fun x y H Q => (∃ i j, x = .str i ∧ y = .str j ∧ Q (.bl (!(Builtin.Str.occurrences j i 0 j.length 1).isEmpty)) H) ∨ rIn K false x y H Q
def rNotInZ (K : PySem.W.Frag) : R2 := fun x y H Q => (∃ i j, x = .str i ∧ y = .str j ∧ Q (.bl (!(!(Builtin.Str.occurrences j i 0 j.length 1).isEmpty))) H) ∨ rIn K true x y H Q
theorem oz_in {K : PySem.W.Frag} : OpZ K (rInZ K) gIn := by
  intro B H s x y v w d s' Q S rx ry h q
  obtain ⟨rfl, h⟩ := gIn_cases h
  rcases h with ⟨a, b, rfl, rfl, rfl⟩ | ⟨u, ds, vs, h1, h2, h3, rfl⟩
  · cases rx; cases ry
    exact .inl ⟨a, b, rfl, rfl, q.same S (.bl _)⟩
  · obtain ⟨rfl, f1⟩ := fV_of rx h1
    obtain ⟨p, xs, rfl, hq, rr⟩ := seq_of S ry h2
    obtain ⟨rfl, f2⟩ := fVs_of rr h3
    exact .inr ⟨p, xs, rfl, hq, f1, f2, q.same S (.bl _)⟩
theorem oz_notin {K : PySem.W.Frag} : OpZ K (rNotInZ K) gNotIn := by
  intro B H s x y v w d s' Q S rx ry h q
  obtain ⟨b, s1, h, h5⟩ := Rs.bind_ok h
  obtain ⟨rfl, h⟩ := gIn_cases h
  rcases h with ⟨a, b, rfl, rfl, rfl⟩ | ⟨u, ds, vs, h1, h2, h3, rfl⟩
  · cases rx; cases ry; cases h5
    exact .inl ⟨a, b, rfl, rfl, q.same S (.bl _)⟩
  · cases h5
    obtain ⟨rfl, f1⟩ := fV_of rx h1
    obtain ⟨p, xs, rfl, hq, rr⟩ := seq_of S ry h2
    obtain ⟨rfl, f2⟩ := fVs_of rr h3
    exact .inr ⟨p, xs, rfl, hq, f1, f2, q.same S (.bl _)⟩
section
variable {G : Gz} {bs : List Str} {k : Nat} {X : Cx} {N : List Str} {nm : List (Str × NameKind)} {ow : Str → Bool} {a b c e : Expr} {fa fb fc : Fn Dv} {pos : Pos}
theorem z_eq (c : Cz G bs k X N nm ow) (ha : ZE X a fa) (hb : ZE X b fb) : ZE X (.Compare a [.Eq] [b] pos) (fBin gEq fa fb) := z_cmp (OpR.or op_eq (op_eqD c.un)) oz_eq ha hb (nomark _)
theorem z_lt (c : Cz G bs k X N nm ow) (ha : ZE X a fa) (hb : ZE X b fb) : ZE X (.Compare a [.Lt] [b] pos) (fBin gLt fa fb) := z_cmp or_lt oz_ord ha hb (nomark _)
theorem z_gt (c : Cz G bs k X N nm ow) (ha : ZE X a fa) (hb : ZE X b fb) : ZE X (.Compare a [.Gt] [b] pos) (fBin gGt fa fb) := z_cmp or_gt oz_ord ha hb (nomark _)
theorem z_ge (c : Cz G bs k X N nm ow) (ha : ZE X a fa) (hb : ZE X b fb) : ZE X (.Compare a [.GtE] [b] pos) (fBin gGe fa fb) := z_cmp or_ge oz_ord ha hb (nomark _)
theorem z_in (c : Cz G bs k X N nm ow) (ha : ZE X a fa) (hb : ZE X b fb) (hm : behindInMarks .In b = false := by rfl) : ZE X (.Compare a [.In] [b] pos) (fBin gIn fa fb) := z_cmp (OpR.or op_in_str op_in_seq) oz_in ha hb hm
theorem z_notin (c : Cz G bs k X N nm ow) (ha : ZE X a fa) (hb : ZE X b fb) (hm : behindInMarks .NotIn b = false := by rfl) : ZE X (.Compare a [.NotIn] [b] pos) (fBin gNotIn fa fb) := z_cmp (OpR.or op_notIn_str op_notIn_seq) oz_notin ha hb hm
theorem z_eqT (c : Cz G bs k X N nm ow) (ha : ZE X a fa) (hb : ZE X b fb) : ZT X (.Compare a [.Eq] [b] pos) (fTest (fBin gEq fa fb)) := z_cmpT (OpR.or op_eq (op_eqD c.un)) oz_eq ha hb (nomark _)
theorem z_neT (c : Cz G bs k X N nm ow) (ha : ZE X a fa) (hb : ZE X b fb) : ZT X (.Compare a [.NotEq] [b] pos) (fTest (fBin gNe fa fb)) := z_cmpT (OpR.or op_ne (op_neD c.un)) oz_ne ha hb (nomark _)
theorem z_ltT (c : Cz G bs k X N nm ow) (ha : ZE X a fa) (hb : ZE X b fb) : ZT X (.Compare a [.Lt] [b] pos) (fTest (fBin gLt fa fb)) := z_cmpT or_lt oz_ord ha hb (nomark _)
theorem z_gtT (c : Cz G bs k X N nm ow) (ha : ZE X a fa) (hb : ZE X b fb) : ZT X (.Compare a [.Gt] [b] pos) (fTest (fBin gGt fa fb)) := z_cmpT or_gt oz_ord ha hb (nomark _)
theorem z_geT (c : Cz G bs k X N nm ow) (ha : ZE X a fa) (hb : ZE X b fb) : ZT X (.Compare a [.GtE] [b] pos) (fTest (fBin gGe fa fb)) := z_cmpT or_ge oz_ord ha hb (nomark _)
theorem z_notinT (c : Cz G bs k X N nm ow) (ha : ZE X a fa) (hb : ZE X b fb) (hm : behindInMarks .NotIn b = false := by rfl) : ZT X (.Compare a [.NotIn] [b] pos) (fTest (fBin gNotIn fa fb)) := z_cmpT (OpR.or op_notIn_str op_notIn_seq) oz_notin ha hb hm
end

/-! ### a[i] -/
def gIx (x y : Dv) (s : Sto) : Rs Dv := match x, y with
  | .str z, .int i => match atI z.cps.toList i with
    | some c => Rs.iff (decide (z.length ≤ 16777216)) (.ok (.str ⟨#[c]⟩) s)
    | none => .bad
  | .loc n, y => match s[n]?, y with
    | some (.lst ds), .int i => match atI ds i with | some d => .ok d s | none => .bad
    | some (.dk kvs), .int i => match valV' kvs (.inl i) with | some d => .ok d s | none => .bad
    | some (.dk kvs), .str z => match valV' kvs (.inr z) with | some d => .ok d s | none => .bad
    | _, _ => .bad
  | x, .int i => match (seqOf s x).bind (atI · i) with | some d => .ok d s | none => .bad
  | _, _ => .bad
where valV' (kvs : List (Key × Dv)) (k : Key) : Option Dv := (kvs.find? fun kv => decide (kv.1 = k)).map (·.2)
abbrev lookK := gIx.valV'
theorem rps_atI {K : PySem.W.Frag} {B : Lo} {H : Hp} {ds : List Dv} {xs : List V} (r : Rps K B H ds xs) {i : Int} {d : Dv} (h : atI ds i = some d) : ∃ v, atI xs i = some v ∧ Rp K B H d v := by
  obtain ⟨j, h1, h2⟩ := Option.bind_eq_some_iff.mp h
  obtain ⟨v, h3, h4⟩ := r.get h2
  refine ⟨v, ?_, h4⟩
  unfold atI
  rw [← r.length, h1]
  exact h3
theorem look_rel {K : PySem.W.Frag} {B : Lo} {H : Hp} {κ : Type} [DecidableEq κ] : ∀ {kvs : List (κ × Dv)} {ks : List (κ × V)}, Paired (fun (p : κ × Dv) (q : κ × V) => p.1 = q.1 ∧ Rp K B H p.2 q.2) kvs ks → ∀ {k : κ} {d : Dv},
    (kvs.find? fun kv => decide (kv.1 = k)).map (·.2) = some d → ∃ v, valV ks k = some v ∧ Rp K B H d v
  | _, _, .nil, k, d, h => by simp at h
  | (k1, d1) :: _, (k2, v2) :: _, .cons ⟨e, r⟩ t, k, d, h => by
    have e : k1 = k2 := e
    subst e
    unfold valV
    rw [List.find?_cons] at h ⊢
    by_cases hk : k1 = k
    · simp only [hk, decide_true] at h ⊢
      cases h
      exact ⟨v2, rfl, r⟩
    · simp only [hk, decide_false] at h ⊢
      exact look_rel t h
theorem gIx_cases {x y d : Dv} {s s' : Sto} (h : gIx x y s = .ok d s') : s' = s ∧ ((∃ z i c, x = .str z ∧ y = .int i ∧ atI z.cps.toList i = some c ∧ z.length ≤ 16777216 ∧ d = .str ⟨#[c]⟩) ∨
    (∃ i ds, y = .int i ∧ seqOf s x = some ds ∧ atI ds i = some d) ∨ ∃ n kvs k, x = .loc n ∧ s[n]? = some (.dk kvs) ∧ ((∃ i, y = .int i ∧ k = .inl i) ∨ ∃ z, y = .str z ∧ k = .inr z) ∧ lookK kvs k = some d) := by
  unfold gIx at h
  split at h
  · split at h
    · rename_i e
      obtain ⟨h1, h2⟩ := Rs.iff_ok h
      cases h2
      exact ⟨rfl, .inl ⟨_, _, _, rfl, rfl, e, of_decide_eq_true h1, rfl⟩⟩
    · cases h
  · split at h
    · rename_i e1
      split at h
      · rename_i e2
        cases h
        refine ⟨rfl, .inr (.inl ⟨_, _, rfl, ?_, e2⟩)⟩
        simp only [seqOf, e1]
      · cases h
    · rename_i e1
      split at h
      · rename_i e2
        cases h
        exact ⟨rfl, .inr (.inr ⟨_, _, _, rfl, e1, .inl ⟨_, rfl, rfl⟩, e2⟩)⟩
      · cases h
    · rename_i e1
      split at h
      · rename_i e2
        cases h
        exact ⟨rfl, .inr (.inr ⟨_, _, _, rfl, e1, .inr ⟨_, rfl, rfl⟩, e2⟩)⟩
      · cases h
    · cases h
  · split at h
    · rename_i e
      obtain ⟨ds, e1, e2⟩ := Option.bind_eq_some_iff.mp e
      cases h
      exact ⟨rfl, .inr (.inl ⟨_, _, rfl, e1, e2⟩)⟩
    · cases h
  · cases h
theorem rp_key {K : PySem.W.Frag} {B : Lo} {H : Hp} {y : Dv} {w : V} {k : Key} (ry : Rp K B H y w) (h : (∃ i, y = .int i ∧ k = .inl i) ∨ ∃ z, y = .str z ∧ k = .inr z) : w = kV k := by
  rcases h with ⟨i, rfl, rfl⟩ | ⟨z, rfl, rfl⟩
  · cases ry; rfl
  · cases ry; rfl
section
variable {G : Gz} {bs : List Str} {k : Nat} {X : Cx} {N : List Str} {nm : List (Str × NameKind)} {ow : Str → Bool} {a b c e : Expr} {fa fb fc : Fn Dv} {pos : Pos}
theorem z_ix (c : Cz G bs k X N nm ow) (ha : ZE X a fa) (hb : ZE X b fb) (hs : PlainIx b := by exact fun _ _ => rfl) : ZE X (.Subscript a b pos) (fBin gIx fa fb) := by
  refine pe_mono (pe_alt (pe_ix ix_seq ha hb hs) (pe_dget (hu_of c.rm) ha hb hs)) fun σ H Q q => ?_
  obtain ⟨B, env, s, d, s', hE, hS, hf, hQ⟩ := q
  obtain ⟨x, s1, h1, hf⟩ := Rs.bind_ok hf
  obtain ⟨y, s2, h2, hf⟩ := Rs.bind_ok hf
  obtain ⟨rfl, hg⟩ := gIx_cases hf
  rcases hg with hg | hg | ⟨n, kvs, ky, rfl, e1, e2, e3⟩
  · left
    refine ⟨B, env, s, _, _, hE, hS, h1, fun B1 H1 v x1 e1 S1 r1 => ?_⟩
    refine ⟨B1, env, s1, _, _, hE.mono x1.mo, S1, h2, fun B2 H2 w x2 e2 S2 r2 => ?_⟩
    obtain ⟨z, i, c, rfl, rfl, h3, h4, rfl⟩ := hg
    cases r1; cases r2
    exact .inr (.inr ⟨z, i, c, rfl, rfl, len_line h4, h3, hQ B2 H2 _ (x1.trans x2) (e2.trans e1) S2 (.str _)⟩)
  · left
    refine ⟨B, env, s, _, _, hE, hS, h1, fun B1 H1 v x1 e1 S1 r1 => ?_⟩
    refine ⟨B1, env, s1, _, _, hE.mono x1.mo, S1, h2, fun B2 H2 w x2 e2 S2 r2 => ?_⟩
    obtain ⟨i, ds, rfl, h3, h4⟩ := hg
    obtain ⟨p, xs, rfl, hq, rr⟩ := seq_of S2 (r1.mono x2.mo) h3
    obtain ⟨u, h5, ru⟩ := rps_atI rr h4
    cases r2
    rcases hq with hq | hq
    · exact .inl ⟨p, xs, i, u, rfl, rfl, hq, h5, hQ B2 H2 _ (x1.trans x2) (e2.trans e1) S2 ru⟩
    · exact .inr (.inl ⟨p, xs, i, u, rfl, rfl, hq, h5, hQ B2 H2 _ (x1.trans x2) (e2.trans e1) S2 ru⟩)
  · right
    refine ⟨B, env, s, _, _, hE, hS, h1, fun B1 H1 v x1 ee1 S1 r1 => ?_⟩
    refine ⟨B1, env, s1, _, _, hE.mono x1.mo, S1, h2, fun B2 H2 w x2 ee2 S2 r2 => ?_⟩
    cases r1.mono x2.mo with
    | loc hl =>
      obtain ⟨o, ho, ro⟩ := S2.at hl
      rw [e1] at ho; cases ho
      obtain ⟨ks, h3, h4⟩ := ro
      obtain ⟨u, h5, ru⟩ := look_rel h4 e3
      rw [rp_key r2 e2]
      refine ⟨_, u, rfl, ?_, hQ B2 H2 _ (x1.trans x2) (ee2.trans ee1) S2 ru⟩
      rw [← h5]
      exact DGet.k h3
end
end Z

namespace Z
open PySem PySem.Spec PyProof.Rows L2

/-! ### statements -/
inductive Ct where
  | next (env : En) | ret (d : Dv) | brk (env : En) | cont (env : En)
def PostC (K : PySem.W.Frag) (B : Lo) (H : Hp) (s' : Sto) (D : Ends) : Ct → Prop
  | .next env => ∀ (B' : Lo) (H' : Hp) (σ' : L2.St), Ext B H B' H' → B'.hid = B.hid → Sim K B' H' s' → RpE K B' H' env σ' → D.nx σ' H'
  | .ret d => ∀ (B' : Lo) (H' : Hp) (v : V), Ext B H B' H' → B'.hid = B.hid → Sim K B' H' s' → Rp K B' H' d v → D.rt v H'
  | .brk env => ∀ (B' : Lo) (H' : Hp) (σ' : L2.St), Ext B H B' H' → B'.hid = B.hid → Sim K B' H' s' → RpE K B' H' env σ' → D.bk σ' H'
  | .cont env => ∀ (B' : Lo) (H' : Hp) (σ' : L2.St), Ext B H B' H' → B'.hid = B.hid → Sim K B' H' s' → RpE K B' H' env σ' → D.ct σ' H'
def tOfS (K : PySem.W.Frag) (f : Fn Ct) : TS := fun D σ H => ∃ B env s c s', RpE K B H env σ ∧ Sim K B H s ∧ f env s = .ok c s' ∧ PostC K B H s' D c
abbrev ZS (X : Cx) (st : Stmt) (f : Fn Ct) : Prop := PS X st (tOfS X.K f)
abbrev ZB (X : Cx) (st : List Stmt) (f : Fn Ct) : Prop := PSs X st (tOfS X.K f)
theorem pss_mono {X : Cx} {e : List Stmt} {t t' : TS} (h : PSs X e t) (hh : ∀ D σ H, t' D σ H → t D σ H) : PSs X e t' := ⟨fun pins s σ H Q I q => h.run pins s σ H Q I (hh _ _ _ q)⟩
theorem PostC.ahead {K : PySem.W.Frag} {B B1 : Lo} {H H1 : Hp} {s' : Sto} {D : Ends} (x : Ext B H B1 H1) (e : B1.hid = B.hid) : ∀ {c : Ct}, PostC K B H s' D c → PostC K B1 H1 s' D c
  | .next env, h => fun B' H' σ' x' e' S r => h B' H' σ' (x.trans x') (e'.trans e) S r
  | .ret d, h => fun B' H' σ' x' e' S r => h B' H' σ' (x.trans x') (e'.trans e) S r
  | .brk env, h => fun B' H' σ' x' e' S r => h B' H' σ' (x.trans x') (e'.trans e) S r
  | .cont env, h => fun B' H' σ' x' e' S r => h B' H' σ' (x.trans x') (e'.trans e) S r
def fNop : Fn Ct := fun env s => .ok (.next env) s
def fSeq (f g : Fn Ct) : Fn Ct := fun env s => (f env s).bind fun c s1 => match c with | .next e => g e s1 | c => .ok c s1
section
variable {G : Gz} {bs : List Str} {k : Nat} {X : Cx} {N : List Str} {nm : List (Str × NameKind)} {ow : Str → Bool} {a b c e : Expr} {fa fb fc : Fn Dv} {pos : Pos} {st : Stmt} {rest p q : List Stmt} {f g : Fn Ct} {x : Str} {i : Nat} {tc : Fn Bool}
theorem z_snil : ZB X [] fNop := by
  refine pss_mono pss_nil fun D σ H q => ?_
  obtain ⟨B, env, s, c, s', hE, hS, hf, hQ⟩ := q
  cases hf
  exact hQ B H σ (Ext.refl _ _) rfl hS hE
theorem z_cons2 (h1 : ZS X st f) (h2 : ZB X rest g) : ZB X (st :: rest) (fSeq f g) := by
  refine pss_mono (pss_cons h1 h2) fun D σ H q => ?_
  obtain ⟨B, env, s, c, s', hE, hS, hf, hQ⟩ := q
  obtain ⟨c1, s1, h1, hf⟩ := Rs.bind_ok hf
  refine ⟨B, env, s, c1, s1, hE, hS, h1, ?_⟩
  cases c1 with
  | next e1 => exact fun B1 H1 σ1 x1 ee S1 r1 => ⟨B1, e1, s1, c, s', r1, S1, hf, hQ.ahead x1 ee⟩
  | ret d => cases hf; exact hQ
  | brk d => cases hf; exact hQ
  | cont d => cases hf; exact hQ
theorem z_sone (h1 : ZS X st f) : ZB X [st] f := pss_one h1
def fBrk : Fn Ct := fun env s => .ok (.brk env) s
def fCont : Fn Ct := fun env s => .ok (.cont env) s
/-- a statement that the law never comes to -/
def fNever : Fn Ct := fun _ _ => .bad
def fDrop (f : Fn Dv) : Fn Ct := fun env s => (f env s).bind fun _ s1 => .ok (.next env) s1
theorem z_expr (h : ZE X e fa) (hs : swapsWith e none pos.line X.env = pure false := by rfl) : ZS X (.Expr e pos) (fDrop fa) := by
  refine ps_mono (ps_expr h hs) fun D σ H q => ?_
  obtain ⟨B, env, s, c, s', hE, hS, hf, hQ⟩ := q
  obtain ⟨d, s1, h1, hf⟩ := Rs.bind_ok hf
  cases hf
  exact ⟨B, env, s, _, _, hE, hS, h1, fun B1 H1 v x1 e1 S1 r1 => hQ B1 H1 σ x1 e1 S1 (hE.mono x1.mo)⟩
def fRet (f : Fn Dv) : Fn Ct := fun env s => (f env s).bind fun d s1 => .ok (.ret d) s1
theorem z_ret (h : ZE X e fa) : ZS X (.Return (some e) pos) (fRet fa) := by
  refine ps_mono (ps_ret h) fun D σ H q => ?_
  obtain ⟨B, env, s, c, s', hE, hS, hf, hQ⟩ := q
  obtain ⟨d, s1, h1, hf⟩ := Rs.bind_ok hf
  cases hf
  exact ⟨B, env, s, _, _, hE, hS, h1, fun B1 H1 v x1 e1 S1 r1 => hQ B1 H1 v x1 e1 S1 r1⟩
def fRetN : Fn Ct := fun _ s => .ok (.ret .non) s
def fIfS (t : Fn Bool) (f g : Fn Ct) : Fn Ct := fun env s => (t env s).bind fun b s1 => if b = true then f env s1 else g env s1
theorem z_ifS (hc : ZT X a tc) (hp : ZB X p f) (hq : ZB X q g) : ZS X (.If a p q pos) (fIfS tc f g) := by
  refine ps_mono (ps_if hc hp hq) fun D σ H q => ?_
  obtain ⟨B, env, s, c, s', hE, hS, hf, hQ⟩ := q
  obtain ⟨d, s1, h1, hf⟩ := Rs.bind_ok hf
  refine ⟨B, env, s, _, _, hE, hS, h1, fun B1 H1 x1 e1 S1 => ?_⟩
  split at hf
  · rename_i hx
    rw [if_pos hx]
    exact ⟨B1, env, s1, c, s', hE.mono x1.mo, S1, hf, hQ.ahead x1 e1⟩
  · rename_i hx
    rw [if_neg hx]
    exact ⟨B1, env, s1, c, s', hE.mono x1.mo, S1, hf, hQ.ahead x1 e1⟩
/-- a name is set -/
def fSet (i : Nat) (f : Fn Dv) : Fn Ct := fun env s => (f env s).bind fun d s1 => .ok (.next (env.set i (some d))) s1
theorem set_to {K : PySem.W.Frag} {te : TE} (ht : ∀ σ H Q, tOf K fa σ H Q → te σ H Q) : ∀ D σ H, tOfS K (fSet i fa) D σ H → tAsg te (gName i) D σ H := fun D σ H q => by
  obtain ⟨B, env, s, c, s', hE, hS, hf, hQ⟩ := q
  obtain ⟨d, s1, h1, hf⟩ := Rs.bind_ok hf
  cases hf
  exact ht _ _ _ ⟨B, env, s, _, _, hE, hS, h1, fun B1 H1 v x1 e1 S1 r1 => hQ B1 H1 _ x1 e1 S1 ((hE.mono x1.mo).set i r1)⟩
theorem z_set {pos' : Pos} (c : Cz G bs k X N nm ow) (h : sOk N nm ow i x = true) (he : ZE X e fa) (hs : swapsWith e (some (.Name x pos')) pos.line X.env = pure false := by rfl) : ZS X (.Assign [.Name x pos'] e pos) (fSet i fa) := by
  obtain ⟨h1, h2, h3⟩ := c.loc h
  have nd : X.N.Nodup := by rw [c.hN]; exact c.nd
  exact ps_mono (ps_set nd h1 h2 he hs h3) (set_to fun _ _ _ h => h)
end

/-! ### targets -/
/-- an item of a loop: q: a pair that came up for the loop's target alone -/
def Rel (K : PySem.W.Frag) (q : Bool) (B : Lo) (H : Hp) (d : Dv) (v : V) : Prop := match q with
  | false => Rp K B H d v
  | true => Rp K B H d v ∨ ∃ a xs ds, d = .tup ds ∧ v = .ref a ∧ SqT K H a xs ∧ Rps K B H ds xs
theorem Rel.of {K : PySem.W.Frag} {q : Bool} {B : Lo} {H : Hp} {d : Dv} {v : V} (h : Rp K B H d v) : Rel K q B H d v := by
  cases q
  · exact h
  · exact .inl h
/-- the slots alone that is names -/
def Only1 (is : List Nat) (σ σ' : L2.St) : Prop := σ'.length = σ.length ∧ ∀ j : Nat, j ∉ is → σ'[j]? = σ[j]?
def tOfG (K : PySem.W.Frag) (q : Bool) (is : List Nat) (g : Dv → Fn En) : TG := fun v σ H Q => ∃ B env s d env' s', RpE K B H env σ ∧ Sim K B H s ∧ Rel K q B H d v ∧ g d env s = .ok env' s' ∧
  ∀ (B' : Lo) (H' : Hp) (σ' : L2.St), Ext B H B' H' → B'.hid = B.hid → Sim K B' H' s' → RpE K B' H' env' σ' → Only1 is σ σ' → Q σ' H'
abbrev ZG (X : Cx) (q : Bool) (is : List Nat) (tg : Expr) (g : Dv → Fn En) : Prop := PG X tg (tOfG X.K q is g)
def tOfGs (K : PySem.W.Frag) (is : List Nat) (g : List Dv → Fn En) : TGs := fun vs σ H Q => ∃ B env s ds env' s', RpE K B H env σ ∧ Sim K B H s ∧ Rps K B H ds vs ∧ g ds env s = .ok env' s' ∧
  ∀ (B' : Lo) (H' : Hp) (σ' : L2.St), Ext B H B' H' → B'.hid = B.hid → Sim K B' H' s' → RpE K B' H' env' σ' → Only1 is σ σ' → Q σ' H'
abbrev ZGs (X : Cx) (is : List Nat) (tg : List Expr) (g : List Dv → Fn En) : Prop := PGs X tg (tOfGs X.K is g)
def gNm (i : Nat) : Dv → Fn En := fun d env s => .ok (env.set i (some d)) s
def gsNil : List Dv → Fn En := fun ds env s => match ds with | [] => .ok env s | _ => .bad
def gsCons (g : Dv → Fn En) (h : List Dv → Fn En) : List Dv → Fn En := fun ds env s => match ds with | d :: r => (g d env s).bind fun env1 s1 => h r env1 s1 | _ => .bad
def gTp (n : Nat) (h : List Dv → Fn En) : Dv → Fn En := fun d env s => match d with | .tup ds => Rs.iff (ds.length == n) (h ds env s) | _ => .bad
section
variable {G : Gz} {bs : List Str} {k : Nat} {X : Cx} {N : List Str} {nm : List (Str × NameKind)} {ow : Str → Bool} {a b c e : Expr} {fa fb fc : Fn Dv} {pos : Pos} {x : Str} {i : Nat} {q : Bool}
theorem zg_name (c : Cz G bs k X N nm ow) (h : sOk N nm ow i x = true) : ZG X false [i] (.Name x pos) (gNm i) := by
  obtain ⟨h1, h2, h3⟩ := c.loc h
  have nd : X.N.Nodup := by rw [c.hN]; exact c.nd
  refine pg_mono (pg_name nd h1 h2 h3) fun v σ H Q q => ?_
  obtain ⟨B, env, s, d, env', s', hE, hS, hr, hg, hQ⟩ := q
  cases hg
  refine hQ B H _ (Ext.refl _ _) rfl hS (hE.set i hr) ⟨by rw [List.length_set], fun j hj => ?_⟩
  rw [List.getElem?_set_ne (fun e => hj (by rw [e]; exact List.mem_singleton.mpr rfl))]
theorem zgs_nil : ZGs X [] [] gsNil := by
  refine ⟨fun pins s σ H vs us Q I r q => pgs_nil.run pins s σ H vs us Q I r ?_⟩
  obtain ⟨B, env, s, ds, env', s', hE, hS, hr, hg, hQ⟩ := q
  cases ds with
  | nil =>
    cases hg
    cases hr
    exact ⟨rfl, hQ B H σ (Ext.refl _ _) rfl hS hE ⟨rfl, fun _ _ => rfl⟩⟩
  | cons d r => cases hg
theorem zgs_cons {es : List Expr} {is js : List Nat} {g : Dv → Fn En} {h : List Dv → Fn En} (h1 : ZG X false is e g) (h2 : ZGs X js es h) (hs : (assignEach (e :: es) X.env).map (·.2) = assign e X.env :: (assignEach es X.env).map (·.2) := by rfl) :
    ZGs X (is ++ js) (e :: es) (gsCons g h) := by
  refine ⟨fun pins s σ H vs us Q I r q => (pgs_cons h1 h2 hs).run pins s σ H vs us Q I r ?_⟩
  obtain ⟨B, env, s, ds, env', s', hE, hS, hr, hg, hQ⟩ := q
  cases hr with
  | nil => cases hg
  | cons r1 rr =>
    obtain ⟨env1, s1, hg1, hg⟩ := Rs.bind_ok (r := _) (f := fun env1 s1 => h _ env1 s1) hg
    refine ⟨_, _, rfl, B, env, _, _, _, _, hE, hS, r1, hg1, fun B1 H1 σ1 x1 e1 S1 E1 o1 => ?_⟩
    refine ⟨B1, _, _, _, _, _, E1, S1, rr.mono x1.mo, hg, fun B2 H2 σ2 x2 e2 S2 E2 o2 => ?_⟩
    refine hQ B2 H2 σ2 (x1.trans x2) (e2.trans e1) S2 E2 ⟨o2.1.trans o1.1, fun j hj => ?_⟩
    rw [List.mem_append, not_or] at hj
    exact (o2.2 j hj.2).trans (o1.2 j hj.1)
theorem zg_tup {es : List Expr} {kk n : Nat} {is : List Nat} {h : List Dv → Fn En} (c : Cz G bs k X N nm ow) (hh : ZGs X is es h) (hn : (assignEach es X.env).length = n := by rfl) (hst : (assignEach es X.env).findIdx? (·.1) = none := by rfl) : ZG X q is (.Tuple es kk pos) (gTp n h) := by
  refine pg_mono (pg_tup c.calm hh hn hst) fun v σ H Q q => ?_
  obtain ⟨B, env, s, d, env', s', hE, hS, hr, hg, hQ⟩ := q
  have go : ∀ {ds : List Dv}, d = .tup ds → (∃ a xs, v = .ref a ∧ SqT X.K H a xs ∧ Rps X.K B H ds xs) → gTup X.K n (tOfGs X.K is h) v σ H Q := fun {ds} ed hx => by
    subst ed
    obtain ⟨a, xs, ev, hq, hrs⟩ := hx
    obtain ⟨hl, hg⟩ := Rs.iff_ok (c := ds.length == n) (r := h ds env s) hg
    exact ⟨a, xs, ev, hq, hrs.length ▸ (beq_iff_eq.mp hl), B, env, s, ds, env', s', hE, hS, hrs, hg, hQ⟩
  cases d with
  | tup ds =>
    cases q with
    | false =>
      have hr : Rp X.K B H (.tup ds) v := hr
      cases hr with
      | tup h1 h2 => exact go rfl ⟨_, _, rfl, h1.sq, h2⟩
    | true =>
      rcases hr with hr | ⟨a, xs, ds', ed, ev, hq, hrs⟩
      · cases hr with
        | tup h1 h2 => exact go rfl ⟨_, _, rfl, h1.sq, h2⟩
      · cases ed
        exact go rfl ⟨a, xs, ev, hq, hrs⟩
  | _ => cases hg
/-- target = value, by any target -/
def fAsg (f : Fn Dv) (g : Dv → Fn En) : Fn Ct := fun env s => (f env s).bind fun d s1 => (g d env s1).bind fun env1 s2 => .ok (.next env1) s2
theorem z_asg {tg : Expr} {is : List Nat} {g : Dv → Fn En} (he : ZE X e fa) (hg : ZG X false is tg g) (hs : swapsWithSole [tg] e pos.line X.env = pure false := by rfl) (hw : swappedStores [tg] e X.env = pure none := by rfl)
    (h1 : (assignEach [tg] X.env).map (·.2) = [assign tg X.env] := by rfl) : ZS X (.Assign [tg] e pos) (fAsg fa g) := by
  refine ps_mono (ps_asg he hg hs hw h1) fun D σ H q => ?_
  obtain ⟨B, env, s, c, s', hE, hS, hf, hQ⟩ := q
  obtain ⟨d, s1, h1, hf⟩ := Rs.bind_ok hf
  obtain ⟨env1, s2, h2, hf⟩ := Rs.bind_ok hf
  cases hf
  refine ⟨B, env, s, _, _, hE, hS, h1, fun B1 H1 v x1 e1 S1 r1 => ?_⟩
  exact ⟨B1, env, _, _, _, _, hE.mono x1.mo, S1, r1, h2, fun B2 H2 σ2 x2 e2 S2 E2 _ => hQ B2 H2 σ2 (x1.trans x2) (e2.trans e1) S2 E2⟩
end
end Z

namespace Z
open PySem PySem.Spec PyProof.Rows L2

mutual
def eqDv : Dv → Dv → Bool
  | .non, .non => true
  | .bl a, .bl b => a == b
  | .int a, .int b => a == b
  | .str a, .str b => decide (a = b)
  | .tup a, .tup b => eqDvs a b
  | .ls a, .ls b => eqDvs a b
  | .loc a, .loc b => a == b
  | .xn a b c fs, .xn a2 b2 c2 gs => decide (a = a2) && (decide (b = b2) && (decide (c = c2) && eqDvs fs gs))
  | _, _ => false
def eqDvs : List Dv → List Dv → Bool
  | [], [] => true
  | a :: r, b :: t => eqDv a b && eqDvs r t
  | _, _ => false
end
mutual
theorem eqDv_eq : ∀ {a b : Dv}, eqDv a b = true → a = b
  | .non, b, h => by cases b <;> first | rfl | cases h
  | .bl x, b, h => by cases b <;> first | (rw [beq_iff_eq.mp h]) | cases h
  | .int x, b, h => by cases b <;> first | (rw [beq_iff_eq.mp h]) | cases h
  | .str x, b, h => by cases b <;> first | (rw [of_decide_eq_true h]) | cases h
  | .tup x, b, h => by cases b <;> first | (rw [eqDvs_eq h]) | cases h
  | .ls x, b, h => by cases b <;> first | (rw [eqDvs_eq h]) | cases h
  | .loc x, b, h => by cases b <;> first | (rw [beq_iff_eq.mp h]) | cases h
  | .xn x y z w, b, h => by
    cases b with
    | xn x2 y2 z2 w2 =>
      have h' : (decide (x = x2) && (decide (y = y2) && (decide (z = z2) && eqDvs w w2))) = true := h
      rw [Bool.and_eq_true, Bool.and_eq_true, Bool.and_eq_true] at h'
      rw [of_decide_eq_true h'.1, of_decide_eq_true h'.2.1, of_decide_eq_true h'.2.2.1, eqDvs_eq h'.2.2.2]
    | _ => cases h
theorem eqDvs_eq : ∀ {a b : List Dv}, eqDvs a b = true → a = b
  | [], b, h => by cases b <;> first | rfl | cases h
  | x :: r, b, h => by
    cases b with
    | nil => cases h
    | cons y t =>
      have h' : (eqDv x y && eqDvs r t) = true := h
      rw [Bool.and_eq_true] at h'
      rw [eqDv_eq h'.1, eqDvs_eq h'.2]
end
mutual
theorem eqDv_rfl : ∀ a : Dv, eqDv a a = true
  | .non => rfl
  | .bl x => by simp [eqDv]
  | .int x => by simp [eqDv]
  | .str x => by simp [eqDv]
  | .tup x => by simp [eqDv, eqDvs_rfl x]
  | .ls x => by simp [eqDv, eqDvs_rfl x]
  | .loc x => by simp [eqDv]
  | .xn x y z w => by simp [eqDv, eqDvs_rfl w]
theorem eqDvs_rfl : ∀ a : List Dv, eqDvs a a = true
  | [] => rfl
  | x :: r => by simp [eqDvs, eqDv_rfl x, eqDvs_rfl r]
end

/-! ### what is walked -/
def isLst (n : Nat) (ds : List Dv) (s : Sto) : Bool := match s[n]? with | some (.lst es) => eqDvs es ds | _ => false
theorem isLst_at {n : Nat} {ds : List Dv} {s : Sto} (h : isLst n ds s = true) : s[n]? = some (.lst ds) := by
  unfold isLst at h
  split at h
  · rename_i e; rw [e, eqDvs_eq h]
  · cases h
abbrev Src := List Dv × (Sto → Bool)
/-- from here on the walk hands out ds, as long as the check holds -/
def WalkZ (K : PySem.W.Frag) (q : Bool) (J : It) (B : Lo) (H : Hp) (src : Src) : Prop :=
  ∀ (B1 : Lo) (H1 : Hp) (s1 : Sto), Ext B H B1 H1 → Sim K B1 H1 s1 → src.2 s1 = true →
    (∀ (i : Nat) (d : Dv), src.1[i]? = some d → J.go i H1 ∧ ∀ x H2, J.yld i H1 x H2 → Ext B1 H1 B1 H2 ∧ Sim K B1 H2 s1 ∧ Rel K q B1 H2 d x) ∧ J.stop src.1.length H1
def tOfI (K : PySem.W.Frag) (q : Bool) (f : Fn Src) : TI := fun σ H R => ∃ B env s src s', RpE K B H env σ ∧ Sim K B H s ∧ f env s = .ok src s' ∧
  ∀ (B' : Lo) (H' : Hp) (J : It), Ext B H B' H' → B'.hid = B.hid → Sim K B' H' s' → WalkZ K q J B' H' src → R J H'
abbrev ZI (X : Cx) (q : Bool) (tg iter : Expr) (f : Fn Src) : Prop := PI X tg iter (tOfI X.K q f)
theorem pi_mono {X : Cx} {tg e : Expr} {t t' : TI} (h : PI X tg e t) (hh : ∀ σ H Q, t' σ H Q → t σ H Q) : PI X tg e t' := ⟨fun pins s σ H Q I q => h.run pins s σ H Q I (hh _ _ _ q)⟩
theorem pi_alt {X : Cx} {tg e : Expr} {t t' : TI} (h : PI X tg e t) (h' : PI X tg e t') : PI X tg e (fun σ H Q => t σ H Q ∨ t' σ H Q) := ⟨fun pins s σ H Q I q => q.elim (h.run pins s σ H Q I) (h'.run pins s σ H Q I)⟩
theorem walk_list {K : PySem.W.Frag} {a : Addr} {q : Bool} {B : Lo} {H : Hp} {ds : List Dv} {chk : Sto → Bool} (h : ∀ (B1 : Lo) (H1 : Hp) (s1 : Sto), Ext B H B1 H1 → Sim K B1 H1 s1 → chk s1 = true → ∃ xs, SqL K H1 a xs ∧ Rps K B1 H1 ds xs) : WalkZ K q (Itl K a) B H (ds, chk) := by
  intro B1 H1 s1 x S hc
  obtain ⟨xs, h1, h2⟩ := h B1 H1 s1 x S hc
  refine ⟨fun i d e => ?_, xs, h1, by rw [← h2.length]; exact Nat.le_refl _⟩
  obtain ⟨v, e1, r⟩ := h2.get e
  refine ⟨⟨xs, v, h1, e1⟩, fun y H2 hy => ?_⟩
  obtain ⟨rfl, hy⟩ := hy
  have e2 := hy xs h1
  rw [e1] at e2; cases e2
  exact ⟨Ext.refl _ _, S, .of r⟩
theorem walk_tup {K : PySem.W.Frag} {a : Addr} {q : Bool} {B : Lo} {H : Hp} {ds : List Dv} {chk : Sto → Bool} {xs : List V} (h1 : Tk K H a xs) (h2 : Rps K B H ds xs) : WalkZ K q (Itt K a) B H (ds, chk) := by
  intro B1 H1 s1 x S hc
  have h1 := (x.mo.tk h1).sq
  have h2 := h2.mono x.mo
  refine ⟨fun i d e => ?_, xs, h1, by rw [← h2.length]; exact Nat.le_refl _⟩
  obtain ⟨v, e1, r⟩ := h2.get e
  refine ⟨⟨xs, v, h1, e1⟩, fun y H2 hy => ?_⟩
  obtain ⟨rfl, hy⟩ := hy
  have e2 := hy xs h1
  rw [e1] at e2; cases e2
  exact ⟨Ext.refl _ _, S, .of r⟩
def noChk : Sto → Bool := fun _ => true
/-- a list or a tuple walked -/
def fSrc (f : Fn Dv) : Fn Src := fun env s => (f env s).bind fun d s1 => match d with
  | .tup ds => .ok (ds, noChk) s1
  | .ls ds => .ok (ds, noChk) s1
  | .loc n => match s1[n]? with | some (.lst ds) => .ok (ds, isLst n ds) s1 | _ => .bad
  | _ => .bad
def rngD (lo : Int) (n : Nat) : List Dv := (List.range n).map fun (i : Nat) => Dv.int (lo + (i : Int))
theorem rngD_len (lo : Int) (n : Nat) : (rngD lo n).length = n := by simp [rngD]
theorem rngD_get {lo : Int} {n i : Nat} {d : Dv} (h : (rngD lo n)[i]? = some d) : i < n ∧ d = .int (lo + i) := by
  have hl : i < n := by have := (List.getElem?_eq_some_iff.mp h).1; simpa [rngD] using this
  refine ⟨hl, ?_⟩
  simp [rngD, hl] at h
  exact h.symm
theorem walk_rng {K : PySem.W.Frag} {q : Bool} {B : Lo} {H : Hp} {chk : Sto → Bool} (lo : Int) (n : Nat) : WalkZ K q (Itr lo n) B H (rngD lo n, chk) := by
  intro B1 H1 s1 x S hc
  refine ⟨fun i d e => ?_, Nat.le_of_eq (rngD_len lo n).symm⟩
  obtain ⟨hl, rfl⟩ := rngD_get e
  refine ⟨hl, fun y H2 hy => ?_⟩
  obtain ⟨rfl, rfl⟩ := hy
  exact ⟨Ext.refl _ _, S, .of (.int _)⟩
def inRng (i : Int) : Bool := decide (-(2 ^ 62) ≤ i) && decide (i < 2 ^ 62)
theorem inRng_ok {i : Int} (h : inRng i = true) : -(2 ^ 62) ≤ i ∧ i < 2 ^ 62 := by
  unfold inRng at h
  simpa only [Bool.and_eq_true, decide_eq_true_eq] using h
def fRng1 (f : Fn (List Dv)) : Fn Src := fun env s => (f env s).bind fun ds s1 => match ds with | [.int j] => Rs.iff (inRng j) (.ok (rngD 0 j.toNat, noChk) s1) | _ => .bad
def fRng2 (f : Fn (List Dv)) : Fn Src := fun env s => (f env s).bind fun ds s1 => match ds with | [.int i, .int j] => Rs.iff (inRng i && inRng j) (.ok (rngD i (j - i).toNat, noChk) s1) | _ => .bad
section
variable {G : Gz} {bs : List Str} {k : Nat} {X : Cx} {N : List Str} {nm : List (Str × NameKind)} {ow : Str → Bool} {a b e tg : Expr} {fa fb fc : Fn Dv} {fs : Fn (List Dv)} {pos p : Pos} {q : Bool}
theorem zi_seq (he : ZE X e fa) : ZI X q tg e (fSrc fa) := by
  refine pi_mono (pi_alt (pi_list (tg := tg) he) (pi_tup (tg := tg) he)) fun σ H R h => ?_
  obtain ⟨B, env, s, src, s', hE, hS, hf, hQ⟩ := h
  obtain ⟨d, s1, h1, hf⟩ := Rs.bind_ok hf
  cases d with
  | tup ds =>
    cases hf
    right
    refine ⟨B, env, s, _, _, hE, hS, h1, fun B1 H1 v x1 e1 S1 r1 => ?_⟩
    cases r1 with
    | tup h2 h3 => exact ⟨_, rfl, ⟨_, h2.sq⟩, hQ B1 H1 _ x1 e1 S1 (walk_tup h2 h3)⟩
  | ls ds =>
    cases hf
    left
    refine ⟨B, env, s, _, _, hE, hS, h1, fun B1 H1 v x1 e1 S1 r1 => ?_⟩
    cases r1 with
    | ls h2 h3 => exact ⟨_, rfl, ⟨_, h2.sq⟩, hQ B1 H1 _ x1 e1 S1 (walk_list fun B2 H2 s2 x2 S2 _ => ⟨_, (x2.mo.ls h2).sq, h3.mono x2.mo⟩)⟩
  | loc n =>
    left
    cases e : s1[n]? with
    | none => simp [e] at hf
    | some o =>
      cases o with
      | lst ds =>
        simp [e] at hf
        obtain ⟨rfl, rfl⟩ := hf
        refine ⟨B, env, s, _, _, hE, hS, h1, fun B1 H1 v x1 e1 S1 r1 => ?_⟩
        cases r1 with
        | loc h2 =>
          obtain ⟨o, ho, ro⟩ := S1.at h2
          rw [e] at ho; cases ho
          obtain ⟨xs, h3, h4⟩ := ro
          refine ⟨_, rfl, ⟨_, .of h3⟩, hQ B1 H1 _ x1 e1 S1 (walk_list fun B2 H2 s2 x2 S2 hc => ?_)⟩
          have h5 := isLst_at hc
          obtain ⟨o, ho, ro⟩ := S2.at (pre_get x2.mo.pre h2)
          rw [h5] at ho; cases ho
          obtain ⟨ys, h6, h7⟩ := ro
          exact ⟨ys, .of h6, h7⟩
      | _ => simp [e] at hf
  | _ => cases hf
theorem zi_rng1 (c : Cz G bs k X N nm ow) (ha : ZA X [a] fs) (hb : bOk bs nm "range" = true := by decide +kernel) (hs : starEach [a] X.env = [(false, eval a X.env)] := by rfl) : ZI X q tg (.Call (.Name "range" p) [a] [] pos) (fRng1 fs) := by
  obtain ⟨hg, hm⟩ := c.blt hb
  refine pi_mono (pi_range1 hg hm ha hs) fun σ H R h => ?_
  obtain ⟨B, env, s, src, s', hE, hS, hf, hQ⟩ := h
  obtain ⟨ds, s1, h1, hf⟩ := Rs.bind_ok hf
  split at hf
  · obtain ⟨hj, hf⟩ := Rs.iff_ok hf
    cases hf
    obtain ⟨j1, j2⟩ := inRng_ok hj
    refine ⟨B, env, s, _, _, hE, hS, h1, fun B1 H1 v x1 e1 S1 r1 => ?_⟩
    cases r1 with
    | cons r rr =>
      cases r; cases rr
      exact ⟨_, rfl, j1, j2, hQ B1 H1 _ x1 e1 S1 (walk_rng _ _)⟩
  · cases hf
theorem zi_rng2 (c : Cz G bs k X N nm ow) (ha : ZA X [a, b] fs) (hb : bOk bs nm "range" = true := by decide +kernel) (hs : starEach [a, b] X.env = [(false, eval a X.env), (false, eval b X.env)] := by rfl) (hs2 : starEach [b] X.env = [(false, eval b X.env)] := by rfl) :
    ZI X q tg (.Call (.Name "range" p) [a, b] [] pos) (fRng2 fs) := by
  obtain ⟨hg, hm⟩ := c.blt hb
  refine pi_mono (pi_range2 hg hm ha hs hs2) fun σ H R h => ?_
  obtain ⟨B, env, s, src, s', hE, hS, hf, hQ⟩ := h
  obtain ⟨ds, s1, h1, hf⟩ := Rs.bind_ok hf
  split at hf
  · obtain ⟨hj, hf⟩ := Rs.iff_ok hf
    rw [Bool.and_eq_true] at hj
    cases hf
    obtain ⟨j1, j2⟩ := inRng_ok hj.1
    obtain ⟨j3, j4⟩ := inRng_ok hj.2
    refine ⟨B, env, s, _, _, hE, hS, h1, fun B1 H1 v x1 e1 S1 r1 => ?_⟩
    cases r1 with
    | cons r rr =>
      cases r
      cases rr with
      | cons r rr =>
        cases r; cases rr
        exact ⟨_, _, rfl, ⟨j1, j2, j3, j4⟩, hQ B1 H1 _ x1 e1 S1 (walk_rng _ _)⟩
  · cases hf
end

/-! ### for -/
def loopZ (chk : Sto → Bool) (g : Dv → Fn En) (body : Fn Ct) : List Dv → Fn Ct
  | [], env, s => Rs.iff (chk s) (.ok (.next env) s)
  | d :: ds, env, s => Rs.iff (chk s) ((g d env s).bind fun env1 s1 => (body env1 s1).bind fun c s2 => match c with
    | .next e => loopZ chk g body ds e s2
    | .cont e => loopZ chk g body ds e s2
    | .brk e => .ok (.next e) s2
    | .ret r => .ok (.ret r) s2)
def fFor (fi : Fn Src) (g : Dv → Fn En) (body : Fn Ct) : Fn Ct := fun env s => (fi env s).bind fun src s1 => loopZ src.2 g body src.1 env s1
section
variable {G : Gz} {bs : List Str} {k : Nat} {X : Cx} {N : List Str} {nm : List (Str × NameKind)} {ow : Str → Bool} {a b e tg iter : Expr} {fa fb fc : Fn Dv} {pos p : Pos} {q : Bool} {body : List Stmt} {fi : Fn Src} {g : Dv → Fn En} {fb : Fn Ct} {is : List Nat}
theorem z_for (c : Cz G bs k X N nm ow) (hi : ZI X q tg iter fi) (hg : ZG X q is tg g) (hb : ZB X body fb) (hs : ∀ x, foldedSetIterable iter X.env x = pure x := by intro _; rfl) : ZS X (.For tg iter body [] pos) (fFor fi g fb) := by
  refine ps_mono (ps_for c.po c.calm hi hg hb hs) fun D σ H h => ?_
  obtain ⟨B, env, s, ct, s', hE, hS, hf, hQ⟩ := h
  obtain ⟨src, s1, h1, hf⟩ := Rs.bind_ok hf
  refine ⟨B, env, s, _, _, hE, hS, h1, fun B1 H1 J x1 e1 S1 W1 => ?_⟩
  have hQ1 := hQ.ahead x1 e1
  refine ⟨fun i m σ3 H3 => m = src.1.length - i ∧ i ≤ src.1.length ∧ ∃ B3 env3 s3, Ext B1 H1 B3 H3 ∧ B3.hid = B1.hid ∧ Sim X.K B3 H3 s3 ∧ RpE X.K B3 H3 env3 σ3 ∧ loopZ src.2 g fb (src.1.drop i) env3 s3 = .ok ct s',
    ⟨_, rfl, Nat.zero_le _, B1, env, s1, Ext.refl _ _, rfl, S1, hE.mono x1.mo, hf⟩, fun i m σ3 H3 w => ?_⟩
  obtain ⟨rfl, hi, B3, env3, s3, x3, e3, S3, E3, hl⟩ := w
  by_cases hlt : i < src.1.length
  · have hd : src.1.drop i = src.1[i] :: src.1.drop (i + 1) := List.drop_eq_getElem_cons hlt
    rw [hd] at hl
    obtain ⟨hc, hl⟩ := Rs.iff_ok hl
    obtain ⟨hgo, _⟩ := W1 B3 H3 s3 x3 S3 hc
    obtain ⟨go, yl⟩ := hgo i src.1[i] (List.getElem?_eq_getElem hlt)
    obtain ⟨env4, s4, h4, hl⟩ := Rs.bind_ok hl
    obtain ⟨c5, s5, h5, hl⟩ := Rs.bind_ok hl
    right
    refine ⟨go, fun σ' H' => ∃ B5 env5, Ext B1 H1 B5 H' ∧ B5.hid = B1.hid ∧ Sim X.K B5 H' s5 ∧ RpE X.K B5 H' env5 σ' ∧ loopZ src.2 g fb (src.1.drop (i + 1)) env5 s5 = .ok ct s', fun σ' H' hN => ?_, fun x H' hy => ?_⟩
    · obtain ⟨B5, env5, x5, e5, S5, E5, hl5⟩ := hN
      exact ⟨_, by omega, rfl, hlt, B5, env5, s5, x5, e5, S5, E5, hl5⟩
    · obtain ⟨x6, S6, r6⟩ := yl x H' hy
      refine ⟨B3, env3, s3, _, _, _, E3.mono x6.mo, S6, r6, h4, fun B7 H7 σ7 x7 e7 S7 E7 o7 => ?_⟩
      refine ⟨B7, env4, s4, c5, s5, E7, S7, h5, ?_⟩
      have xx : Ext B1 H1 B7 H7 := x3.trans (x6.trans x7)
      have ee : B7.hid = B1.hid := e7.trans e3
      cases c5 with
      | next env5 => exact fun B8 H8 σ8 x8 e8 S8 E8 => ⟨B8, env5, xx.trans x8, e8.trans ee, S8, E8, hl⟩
      | cont env5 => exact fun B8 H8 σ8 x8 e8 S8 E8 => ⟨B8, env5, xx.trans x8, e8.trans ee, S8, E8, hl⟩
      | brk env5 =>
        cases hl
        exact fun B8 H8 σ8 x8 e8 S8 E8 => hQ1 B8 H8 σ8 (xx.trans x8) (e8.trans ee) S8 E8
      | ret d =>
        cases hl
        exact fun B8 H8 v x8 e8 S8 r8 => hQ1 B8 H8 v (xx.trans x8) (e8.trans ee) S8 r8
  · have hi2 : i = src.1.length := by omega
    rw [List.drop_eq_nil_of_le (by omega)] at hl
    obtain ⟨hc, hl⟩ := Rs.iff_ok hl
    cases hl
    left
    obtain ⟨_, hst⟩ := W1 B3 H3 _ x3 S3 hc
    exact ⟨by rw [hi2]; exact hst, hQ1 B3 H3 σ3 x3 e3 S3 E3⟩
end

/-! ### while -/
def whileZ (t : Fn Bool) (body : Fn Ct) : Nat → Fn Ct
  | 0, _, _ => .bad
  | n + 1, env, s => (t env s).bind fun b s1 => if b = true then (body env s1).bind fun c s2 => match c with
      | .next e => whileZ t body n e s2
      | .cont e => whileZ t body n e s2
      | .brk e => .ok (.next e) s2
      | .ret r => .ok (.ret r) s2
    else .ok (.next env) s1
def fWhile (n : Nat) (t : Fn Bool) (body : Fn Ct) : Fn Ct := whileZ t body n
section
variable {G : Gz} {bs : List Str} {k : Nat} {X : Cx} {N : List Str} {nm : List (Str × NameKind)} {ow : Str → Bool} {a b e tg iter : Expr} {pos p : Pos} {q : Bool} {body : List Stmt} {tc : Fn Bool} {fb : Fn Ct} {is : List Nat}
end
end Z

namespace Z
open PySem PySem.Spec PyProof.Rows L2

/-! ### a comprehension's block -/
def relN (nm names : List (Str × NameKind)) : List (Str × NameKind) := names.map fun (n, k) => if (k == .free && nm.lookup n == some .cell) = true then (n, .cell) else (n, k)
def ownN (names : List (Str × NameKind)) : Str → Bool := fun x => names.lookup x == some .cell
def scD (nm : List (Str × NameKind)) : Scope := { kind := .function, names := nm, isGenerator := false, isCoroutine := false }
def blkZ (N : List Str) (nm : List (Str × NameKind)) (scope : Scope) (own : List (Str × Nat)) : Bool := blkC N (scD nm) scope own
section
variable {G : Gz} {bs : List Str} {k : Nat} {X : Cx} {N : List Str} {nm : List (Str × NameKind)} {ow : Str → Bool}
theorem Cz.blkOk (c : Cz G bs k X N nm ow) {scope : Scope} {own : List (Str × Nat)} (h : blkZ N nm scope own = true) : BlkOk X.N X.env.scope scope own := by
  obtain ⟨h1, h2, h3, h4, h5⟩ := blkOk_by h
  rw [c.hN]
  refine ⟨h1, h2, h3, fun y hy e => ?_, h5⟩
  rw [c.nm]
  exact h4 y hy e
theorem Cz.blk (c : Cz G bs k X N nm ow) {scope : Scope} (hk : scope.kind = .function) (s : Shared) (H : Hp) (C : Addr) (cl : List (Str × Addr)) (fp : List Addr) :
    Cz G bs k (X.blk s H scope (compEnvC scope cl C X.env) fp) N (relN nm scope.names) (ownN scope.names) where
  hN := c.hN
  nd := c.nd
  kd := hk
  nm := by
    show (relabel scope X.env).names = _
    unfold relabel relN
    simp only
    refine List.map_congr_left fun y hy => ?_
    have e : (X.env.scope.kind == ScopeKind.function) = true := by rw [c.kd]; rfl
    have e2 : X.env.kindOf y.1 = nm.lookup y.1 := by show X.env.scope.names.lookup _ = _; rw [c.nm]
    simp only [e, e2, Bool.and_true]
  ow := rfl
  calm := c.calm
  rm := c.rm
  gd := c.gd
  bl := c.bl
  gp := c.gp
  gw := c.gw
  gK := c.gK
  gm := c.gm
  gb := c.gb
  po := PassesOwn.never
end
def wipeZ (env : En) : List Nat → En
  | [] => env
  | v :: vs => (wipeZ env vs).set v none
theorem RpE.wipe {K : PySem.W.Frag} {B : Lo} {H : Hp} {env : En} {σ : L2.St} (h : RpE K B H env σ) : ∀ vs : List Nat, RpE K B H (wipeZ env vs) (wipe σ vs)
  | [] => h
  | v :: vs => (h.wipe vs).unset v
theorem wipe_get {σ : L2.St} {j : Nat} : ∀ {vs : List Nat}, (wipe σ vs)[j]? = if j ∈ vs then (if j < σ.length then some none else none) else σ[j]?
  | [] => by simp [L2.wipe]
  | v :: vs => by
    have ih := wipe_get (σ := σ) (j := j) (vs := vs)
    show ((wipe σ vs).set v none)[j]? = _
    by_cases hj : v = j
    · subst hj
      by_cases hl : v < σ.length
      · rw [List.getElem?_set_self (by rw [wipe_length]; exact hl)]
        simp [hl]
      · rw [List.getElem?_eq_none (by rw [List.length_set, wipe_length]; omega)]
        simp [hl]
    · rw [List.getElem?_set_ne hj, ih]
      simp only [List.mem_cons, show ¬ j = v from fun e => hj e.symm, false_or]
theorem wipe_only {σ σ2 : L2.St} {is vs : List Nat} (h : Only1 is (wipe σ vs) σ2) (hs : ∀ i ∈ is, i ∈ vs) : wipe σ2 vs = wipe σ vs := by
  have hl : σ2.length = σ.length := by rw [h.1, wipe_length]
  apply List.ext_getElem?
  intro j
  rw [wipe_get, wipe_get]
  by_cases hj : j ∈ vs
  · simp [hj, hl]
  · rw [if_neg hj, if_neg hj, h.2 j (fun z => hj (hs j z)), wipe_get, if_neg hj]

/-! ### what lies aside is changed -/
section
variable {K : PySem.W.Frag} {B : Lo} {H : Hp} {s : Sto}
theorem Mo.rehid (S : Sim K B H s) {D : Addr} {o : HO} (h : D ∈ B.hid) : Mo B H B (upd H D o) := by
  obtain ⟨h1, v, h2, hm⟩ := S.hid D h
  refine ⟨List.prefix_refl _, fun b o e _ hb _ => ?_, fun b o e => ?_, fun b o u e => ?_, fun _ z => z.elim .inl fun z => .inr (.inl z), fun b ps e => ⟨ps, ?_⟩⟩
  · rw [upd_ne (fun z => hb (by rw [z]; exact h))]; exact e
  · rw [upd_ne (fun z => by rw [z, h2] at e; cases e; exact hm)]; exact e
  · rw [upd_ne (fun z => by rw [z, h2] at e; cases e; exact hm)]; exact e
  · rw [upd_ne (fun z => by rw [z, h2] at e; cases e; exact hm)]; exact e
theorem Sim.rehid (S : Sim K B H s) {D : Addr} {o : HO} (h : D ∈ B.hid) (ho : MutH (some o) := by trivial) : Sim K B (upd H D o) s := by
  obtain ⟨h1, v, h2, hm⟩ := S.hid D h
  refine ⟨S.nd, S.len, fun n a u e1 e2 => (S.obs n a u e1 e2).mono (Mo.rehid S h) (upd_ne fun z => h1 (by rw [← z]; exact List.mem_of_getElem? e1)), fun b hb => ?_, fun x hx c P q => (S.tabs x hx c P q).mono (Mo.rehid S h) (upd_ne ((S.tabs x hx c P q).ne h2 hm))⟩
  obtain ⟨h3, zs, h4, h5⟩ := S.hid b hb
  refine ⟨h3, ?_⟩
  by_cases hd : b = D
  · rw [hd]; exact ⟨o, upd_same, ho⟩
  · exact ⟨zs, (upd_ne hd).trans h4, h5⟩
end

/-! ### [elt for target in iter if ..] -/
def lcZ (chk : Sto → Bool) (own : List Nat) (g : Dv → Fn En) (tt : Fn Bool) (te : Fn Dv) : List Dv → Fn (List Dv)
  | [], _, s => Rs.iff (chk s) (.ok [] s)
  | d :: ds, env, s => Rs.iff (chk s) ((g d (wipeZ env own) s).bind fun env1 s1 => (tt env1 s1).bind fun b s2 => if b = true then (te env1 s2).bind fun y s3 => (lcZ chk own g tt te ds env s3).bind fun ys s4 => .ok (y :: ys) s4
      else lcZ chk own g tt te ds env s2)
def fLc (fi : Fn Src) (own : List Nat) (g : Dv → Fn En) (tt : Fn Bool) (te : Fn Dv) : Fn (List Dv) := fun env s => (fi env s).bind fun src s1 => Rs.iff (decide (src.1.length < 16777216)) (lcZ src.2 own g tt te src.1 env s1)
def fYes : Fn Bool := fun _ s => .ok true s
abbrev ZTs (X : Cx) (ifs : List Expr) (f : Fn Bool) : Prop := PTs X ifs (tOfT X.K f)
theorem pts_mono {X : Cx} {e : List Expr} {t t' : TT} (h : PTs X e t) (hh : ∀ σ H Q, t' σ H Q → t σ H Q) : PTs X e t' := ⟨fun pins s σ H Q I q => h.run pins s σ H Q I (hh _ _ _ q)⟩
theorem zts_nil {X : Cx} : ZTs X [] fYes := pts_mono pts_nil fun σ H Q q => by
  obtain ⟨B, env, s, b, s', hE, hS, hf, hQ⟩ := q
  cases hf
  exact hQ B H (Ext.refl _ _) rfl hS
theorem zts_one {X : Cx} {c : Expr} {f : Fn Bool} (h : ZT X c f) : ZTs X [c] f := pts_one h
theorem lc_to {K : PySem.W.Frag} {q : Bool} {fi : Fn Src} {is own : List Nat} {g : Dv → Fn En} {tt : Fn Bool} {te : Fn Dv} (his : ∀ i ∈ is, i ∈ own) :
    ∀ σ H Q, tOfL K (fLc fi own g tt te) σ H Q → tLc (tOfI K q fi) (tOfG K q is g) (tOfT K tt) (tOf K te) own σ H Q := fun σ H Q h => by
  obtain ⟨B, env, s, rs, s', hE, hS, hf, hQ⟩ := h
  obtain ⟨src, s1, h1, hf⟩ := Rs.bind_ok hf
  obtain ⟨hz, hf⟩ := Rs.iff_ok hf
  have hz : src.1.length < 16777216 := of_decide_eq_true hz
  refine ⟨B, env, s, _, _, hE, hS, h1, fun B1 H1 J x1 e1 S1 W1 D hD => ?_⟩
  have nD : D ∉ B1.hid := S1.freeH hD
  have nL : D ∉ B1.locs := S1.free hD
  have D0 : H D = none := x1.was_none hD fun z => nL (x1.mo.pre.subset z)
  refine ⟨fun i m H3 => m = src.1.length - i ∧ i ≤ src.1.length ∧ ∃ (L3 : List Addr) (s3 : Sto) (acc rest : List Dv) (accV : List V), Ext B1 H1 ⟨L3, D :: B1.hid⟩ H3 ∧ Sim K ⟨L3, D :: B1.hid⟩ H3 s3 ∧ RpE K ⟨L3, D :: B1.hid⟩ H3 env σ ∧
      H3 D = some (.lst accV) ∧ Rps K ⟨L3, D :: B1.hid⟩ H3 acc accV ∧ acc.length ≤ i ∧ lcZ src.2 own g tt te (src.1.drop i) env s3 = .ok rest s' ∧ acc ++ rest = rs,
    ⟨_, rfl, Nat.zero_le _, B1.locs, s1, [], rs, [], Ext.aside hD, S1.aside hD, hE.mono (x1.mo.trans (Mo.aside hD)), upd_same, .nil, Nat.le_refl _, hf, rfl⟩, fun i m H3 w => ?_⟩
  obtain ⟨rfl, hi, L3, s3, acc, rest, accV, x3, S3, E3, hd, ra, hal, hl, hr⟩ := w
  by_cases hlt : i < src.1.length
  · have hdr : src.1.drop i = src.1[i] :: src.1.drop (i + 1) := List.drop_eq_getElem_cons hlt
    rw [hdr] at hl
    obtain ⟨hc, hl⟩ := Rs.iff_ok hl
    obtain ⟨hgo, _⟩ := W1 _ H3 s3 x3 S3 hc
    obtain ⟨go, yl⟩ := hgo i src.1[i] (List.getElem?_eq_getElem hlt)
    obtain ⟨env4, s4, h4, hl⟩ := Rs.bind_ok hl
    obtain ⟨b5, s5, h5, hl⟩ := Rs.bind_ok hl
    right
    refine ⟨go, fun H' => ∃ (L5 : List Addr) (s6 : Sto) (acc rest : List Dv) (accV : List V), Ext B1 H1 ⟨L5, D :: B1.hid⟩ H' ∧ Sim K ⟨L5, D :: B1.hid⟩ H' s6 ∧ RpE K ⟨L5, D :: B1.hid⟩ H' env σ ∧
      H' D = some (.lst accV) ∧ Rps K ⟨L5, D :: B1.hid⟩ H' acc accV ∧ acc.length ≤ i + 1 ∧ lcZ src.2 own g tt te (src.1.drop (i + 1)) env s6 = .ok rest s' ∧ acc ++ rest = rs, fun H' hN => ?_, fun x H' hy => ?_⟩
    · obtain ⟨L5, s6, acc, rest, accV, hh⟩ := hN
      exact ⟨_, by omega, rfl, hlt, L5, s6, acc, rest, accV, hh⟩
    · obtain ⟨x6, S6, r6⟩ := yl x H' hy
      have d6 : H' D = some (.lst accV) := x6.keepH D _ hd List.mem_cons_self
      refine ⟨_, wipeZ env own, s3, _, _, _, (E3.mono x6.mo).wipe own, S6, r6, h4, fun B7 H7 σ7 x7 e7 S7 E7 o7 => ⟨wipe_only o7 his, ?_⟩⟩
      refine ⟨B7, env4, s4, b5, s5, E7, S7, h5, fun B8 H8 x8 e8 S8 => ?_⟩
      have hh8 : B8.hid = D :: B1.hid := e8.trans e7
      obtain ⟨L8, h8⟩ := B8
      simp only at hh8
      subst hh8
      have xx : Ext B1 H1 ⟨L8, D :: B1.hid⟩ H8 := x3.trans (x6.trans (x7.trans x8))
      have mm : Mo ⟨L3, D :: B1.hid⟩ H3 ⟨L8, D :: B1.hid⟩ H8 := (x6.trans (x7.trans x8)).mo
      have d8 : H8 D = some (.lst accV) := (x7.trans x8).keepH D _ d6 List.mem_cons_self
      split at hl
      · rename_i hb
        show if b5 = true then _ else _
        rw [if_pos hb]
        obtain ⟨y, s9, h9, hl⟩ := Rs.bind_ok hl
        obtain ⟨ys, s10, h10, hl⟩ := Rs.bind_ok hl
        cases hl
        refine ⟨⟨L8, D :: B1.hid⟩, env4, s5, _, _, E7.mono x8.mo, S8, h9, fun B9 H9 v x9 e9 S9 r9 => ?_⟩
        obtain ⟨L9, hid9⟩ := B9
        simp only at e9
        subst e9
        have d9 : H9 D = some (.lst accV) := x9.keepH D _ d8 List.mem_cons_self
        have ra9 := (ra.mono mm).mono x9.mo
        have hm9 : D ∈ (⟨L9, D :: B1.hid⟩ : Lo).hid := List.mem_cons_self
        have mr := Mo.rehid (o := .lst (accV ++ [v])) S9 hm9
        refine ⟨accV, d9, ?_, L9, s9, acc ++ [y], ys, accV ++ [v], (xx.trans x9).rewrite hD, S9.rehid hm9, (E3.mono (mm.trans x9.mo)).mono mr, upd_same, (ra9.append (.cons r9 .nil)).mono mr, ?_, h10, ?_⟩
        · rw [← ra9.length, sizeLine_eq]; omega
        · rw [List.length_append, List.length_singleton]; omega
        · rw [← hr, List.append_assoc]; rfl
      · rename_i hb
        show if b5 = true then _ else _
        rw [if_neg hb]
        exact ⟨L8, s5, acc, rest, accV, xx, S8, E3.mono mm, d8, ra.mono mm, by omega, hl, hr⟩
  · have hi2 : i = src.1.length := by omega
    rw [List.drop_eq_nil_of_le (by omega)] at hl
    obtain ⟨hc, hl⟩ := Rs.iff_ok hl
    cases hl
    left
    obtain ⟨_, hst⟩ := W1 _ H3 _ x3 S3 hc
    rw [List.append_nil] at hr
    subst hr
    exact ⟨by rw [hi2]; exact hst, hQ ⟨L3, B1.hid⟩ H3 D accV (x1.trans x3) e1 S3 nD D0 hd ra⟩
section
variable {G : Gz} {bs : List Str} {k : Nat} {X : Cx} {N : List Str} {nm : List (Str × NameKind)} {ow : Str → Bool} {elt tg iter : Expr} {ifs : List Expr} {scope : Scope} {own : List (Str × Nat)} {pos : Pos} {q : Bool} {fi : Fn Src} {is : List Nat} {g : Dv → Fn En} {tt : Fn Bool} {te : Fn Dv}
theorem z_lc (c : Cz G bs k X N nm ow) (own : List (Str × Nat)) (hi : ZI X q tg iter fi)
    (hin : ∀ X' : Cx, Cz G bs k X' N (relN nm scope.names) (ownN scope.names) → ZG X' q is tg g ∧ ZTs X' ifs tt ∧ ZE X' elt te)
    (ok : blkZ N nm scope own = true := by decide +kernel) (hk : scope.kind = .function := by rfl) (his : is.all (fun i => (own.map (·.2)).contains i) = true := by decide +kernel) (hs : ∀ x, foldedSetIterable iter X.env x = pure x := by intro _; rfl) :
    ZL X (.ListComp elt [⟨tg, iter, ifs, 0⟩] scope pos) (fLc fi (own.map (·.2)) g tt te) := by
  have nd : X.N.Nodup := by rw [c.hN]; exact c.nd
  have hcs := fun s H C cl fp => hin _ (c.blk hk s H C cl fp)
  refine pe_mono (pe_lc (own := own) c.calm nd hi (c.blkOk ok) (fun s H C cl fp => (hcs s H C cl fp).1) (fun s H C cl fp => (hcs s H C cl fp).2.1) (fun s H C cl fp => (hcs s H C cl fp).2.2) hs) (lc_to fun i hi => ?_)
  have := List.all_eq_true.mp his i hi
  exact List.contains_iff_mem.mp this
end
end Z

namespace Z
open PySem PySem.Spec PyProof.Rows L2

/-! ### what a def leaves behind it -/
mutual
/-- no place of the store from b on is named in it -/
def below (b : Nat) : Dv → Bool
  | .tup ds => belows b ds
  | .ls ds => belows b ds
  | .loc n => decide (n < b)
  | .xn _ _ _ fs => belows b fs
  | _ => true
def belows (b : Nat) : List Dv → Bool
  | [] => true
  | d :: r => below b d && belows b r
end
def belowO (b : Nat) : Ob → Bool
  | .lst ds => belows b ds
  | .dk kvs => kvs.all fun p => below b p.2
  | .dt kvs => kvs.all fun p => below b p.2
section
variable {K : PySem.W.Frag} {B' : Lo} {H : Hp} {L h : List Addr} {b : Nat}
mutual
theorem Rp.cut (hp : L <+: B'.locs) (hb : L.length = b) (hh : ∀ a ∈ h, a ∈ B'.hid) : ∀ {d : Dv} {v : V}, Rp K B' H d v → below b d = true → Rp K ⟨L, h⟩ H d v
  | _, _, .non, _ => .non
  | _, _, .bl b, _ => .bl b
  | _, _, .int b, _ => .int b
  | _, _, .str b, _ => .str b
  | _, _, .tup h1 h2, e => .tup h1 (Rps.cut hp hb hh h2 (by simpa [below] using e))
  | _, _, .ls h1 h2, e => by
    refine .ls ?_ (Rps.cut hp hb hh h2 (by simpa [below] using e))
    rcases h1 with ⟨q1, q2, q3⟩ | q | q
    · exact .inl ⟨q1, fun z => q2 (hp.subset z), fun z => q3 (hh _ z)⟩
    · exact .inr (.inl q)
    · exact .inr (.inr q)
  | _, _, @Rp.loc _ _ _ n a h1, e => .loc (by
    have hl : n < b := by simpa [below] using e
    obtain ⟨t, ht⟩ := hp
    rw [← ht, List.getElem?_append_left (by rw [hb]; exact hl)] at h1
    exact h1)
  | _, _, .xn h n m l r, e => .xn h (fun z => n (hp.subset z)) (fun z => m (hh _ z)) l (Rps.cut hp hb hh r (by simpa [below] using e))
theorem Rps.cut (hp : L <+: B'.locs) (hb : L.length = b) (hh : ∀ a ∈ h, a ∈ B'.hid) : ∀ {d : List Dv} {v : List V}, Rps K B' H d v → belows b d = true → Rps K ⟨L, h⟩ H d v
  | _, _, .nil, _ => .nil
  | _, _, @Rps.cons _ _ _ d _ ds _ h1 h2, e => by
    have e' : below b d = true ∧ belows b ds = true := by simpa [belows] using e
    exact .cons (Rp.cut hp hb hh h1 e'.1) (Rps.cut hp hb hh h2 e'.2)
end
theorem paired_cut {κ : Type} (hp : L <+: B'.locs) (hb : L.length = b) (hh : ∀ a ∈ h, a ∈ B'.hid) : ∀ {kvs : List (κ × Dv)} {ks : List (κ × V)}, Paired (fun (p : κ × Dv) (q : κ × V) => p.1 = q.1 ∧ Rp K B' H p.2 q.2) kvs ks → (kvs.all fun p => below b p.2) = true →
    Paired (fun (p : κ × Dv) (q : κ × V) => p.1 = q.1 ∧ Rp K ⟨L, h⟩ H p.2 q.2) kvs ks
  | _, _, .nil, _ => .nil
  | _, _, .cons r t, e => by
    rw [List.all_cons, Bool.and_eq_true] at e
    exact .cons ⟨r.1, r.2.cut hp hb hh e.1⟩ (paired_cut hp hb hh t e.2)
theorem RpO.cut (hp : L <+: B'.locs) (hb : L.length = b) (hh : ∀ a ∈ h, a ∈ B'.hid) {a : Addr} {o : Ob} (r : RpO K B' H a o) (e : belowO b o = true) : RpO K ⟨L, h⟩ H a o := by
  cases o with
  | lst ds => obtain ⟨xs, h1, h2⟩ := r; exact ⟨xs, h1, h2.cut hp hb hh e⟩
  | dk kvs => obtain ⟨xs, h1, h2⟩ := r; exact ⟨xs, h1, paired_cut hp hb hh h2 e⟩
  | dt kvs => obtain ⟨xs, h1, h2⟩ := r; exact ⟨xs, h1, paired_cut hp hb hh h2 e⟩
end
def keepsZ (b : Nat) (s : Sto) : Bool := (s.take b).all (belowO b)
def gcZ (b : Nat) (d : Dv) (s : Sto) : Rs Dv :=
  if (below b d && keepsZ b s) = true then .ok d (s.take b)
  else match d with
    | .loc n => match s[n]? with
      | some (.lst ds) => if (decide (b ≤ n) && belows b ds && keepsZ b s) = true then .ok (.ls ds) (s.take b) else .ok d s
      | _ => .ok d s
    | _ => .ok d s
/-- what the caller wants, ahead of the cleaning -/
theorem gc_ok {K : PySem.W.Frag} {B : Lo} {H : Hp} {s s1 s2 : Sto} {d e : Dv} {Q : VK} (S : Sim K B H s) (hg : gcZ s.length d s1 = .ok e s2) (hQ : PostZ K B H s2 e Q) : PostZ K B H s1 d Q := by
  intro B' H' v x eh S' r
  have hlen : B.locs.length = s.length := S.len
  have cut : keepsZ s.length s1 = true → ∀ {f : Dv} {u : V}, (∃ L : Lo, L = ⟨B.locs, B'.hid⟩ ∧ Rp K L H' f u) → PostZ K B H (s1.take s.length) f Q → Q u H' := fun hk {f u} ⟨L, eL, ru⟩ hq => by
    subst eL
    refine hq ⟨B.locs, B'.hid⟩ H' u ⟨⟨List.prefix_refl _, x.mo.keep, x.mo.tups, x.mo.frzs, fun b z => x.mo.new b (z.elim (fun z => .inl (x.mo.pre.subset z)) .inr), x.mo.tbls⟩, x.keepH, x.sub, fun b z => .inl z⟩ eh ?_ ru
    refine ⟨S.nd, ?_, fun n a o e1 e2 => ?_, fun b hb => ?_, fun y hy c P q => (S'.tabs y hy c P q).cut x.mo.pre⟩
    · rw [List.length_take, ← S'.len]
      have := x.mo.pre.length_le
      show B.locs.length = _
      omega
    · have hn : n < s.length := by rw [← hlen]; exact (List.getElem?_eq_some_iff.mp e1).1
      rw [List.getElem?_take_of_lt hn] at e2
      have hb : belowO s.length o = true := by
        refine List.all_eq_true.mp hk o (List.mem_of_getElem? (i := n) ?_)
        rw [List.getElem?_take_of_lt hn]; exact e2
      exact (S'.obs n a o (pre_get x.mo.pre e1) e2).cut x.mo.pre hlen (fun _ z => z) hb
    · obtain ⟨h1, h2⟩ := S'.hid b hb
      exact ⟨fun z => h1 (x.mo.pre.subset z), h2⟩
  unfold gcZ at hg
  split at hg
  · rename_i hc
    rw [Bool.and_eq_true] at hc
    cases hg
    exact cut hc.2 ⟨_, rfl, r.cut x.mo.pre hlen (fun _ z => z) hc.1⟩ hQ
  · split at hg
    · rename_i n _
      split at hg
      · rename_i ds e1
        split at hg
        · rename_i hc
          rw [Bool.and_eq_true, Bool.and_eq_true] at hc
          have hbn : s.length ≤ n := of_decide_eq_true hc.1.1
          cases hg
          cases r with
          | @loc _ a hl =>
            obtain ⟨o, ho, ro⟩ := S'.at hl
            rw [e1] at ho; cases ho
            obtain ⟨xs, h1, h2⟩ := ro
            refine cut hc.2 ⟨_, rfl, .ls (.inl ⟨h1, fun z => ?_, fun z => (S'.hid _ z).1 (List.mem_of_getElem? hl)⟩) (h2.cut x.mo.pre hlen (fun _ z => z) hc.1.2)⟩ hQ
            obtain ⟨m, hm⟩ := List.getElem?_of_mem z
            have hm2 := pre_get x.mo.pre hm
            obtain ⟨q1, q2⟩ := List.getElem?_eq_some_iff.mp hl
            obtain ⟨q3, q4⟩ := List.getElem?_eq_some_iff.mp hm2
            have em : n = m := (List.getElem_inj S'.nd).mp (q2.trans q4.symm)
            have hlt : m < B.locs.length := (List.getElem?_eq_some_iff.mp hm).1
            omega
        · cases hg
          exact hQ B' H' v x eh S' r
      · cases hg
        exact hQ B' H' v x eh S' r
    · cases hg
      exact hQ B' H' v x eh S' r

/-! ### defs -/
def fDef (n m : Nat) (body : Fn Ct) (ds : List Dv) (s : Sto) : Rs Dv :=
  Rs.iff (ds.length == n) ((body (ds.map some ++ List.replicate (m - n) none) s).bind fun c s1 => match c with
    | .next _ => gcZ s.length .non s1
    | .ret d => gcZ s.length d s1
    | _ => .bad)
abbrev Phi := List Dv → Sto → Rs Dv
def spZ (K : PySem.W.Frag) (n : Nat) (φ : Phi) : Sp := fun vs H Q _ => vs.length = n ∧ ∃ B ds s d s', Rps K B H ds vs ∧ Sim K B H s ∧ φ ds s = .ok d s' ∧ PostZ K B H s' d Q
/-- a def at f keeps its promise, wherever no thing's text is being written -/
structure FnZ (G : Gz) (k : Nat) (f : Addr) (fd : FuncData) (ps : List Str) (sp : Sp) : Prop where
  run : ∀ (A : Around) (outer : List Env) (s : Shared) (H : Hp) (args : Args) (us : List Value) (vs : List V) (Q : VK), A.guards = some [] → Room k A → Env0 G.prog G.w G.K G.mg G.base A outer s H → BindsTo s fd args (ps.zip us) → Vals vs us → sp vs H Q E0 →
    codeAny (model G.prog G.w) A (.call (.ref f) args) (CR CX0 outer G.prog G.w H s Q E0) s
theorem FnZ.mono {G : Gz} {j k : Nat} {f : Addr} {fd : FuncData} {ps : List Str} {sp : Sp} (F : FnZ G j f fd ps sp) (h : j ≤ k) : FnZ G k f fd ps sp :=
  ⟨fun A outer s H args us vs Q hg hr => F.run A outer s H args us vs Q hg (hr.mono h)⟩
/-- the def x of the module, asked by its places -/
structure Fz (G : Gz) (k : Nat) (x : Str) (n : Nat) (φ : Phi) : Prop where
  len : ∀ ds s d s', φ ds s = .ok d s' → ds.length = n
  ex : ∃ (f : Addr) (fd : FuncData) (ps : List Str), G.mg x = some (.ref f) ∧ PySem.W.keepIn G.K (.ref f) = true ∧ Binds G.K fd ps [] ∧ ps.length = n ∧ FnZ G k f fd ps (spZ G.K n φ)
theorem Fz.mono {G : Gz} {j k : Nat} {x : Str} {n : Nat} {φ : Phi} (F : Fz G j x n φ) (h : j ≤ k) : Fz G k x n φ := by
  obtain ⟨f, fd, ps, h1, h2, h3, h4, h5⟩ := F.ex
  exact ⟨F.len, f, fd, ps, h1, h2, h3, h4, h5.mono h⟩
theorem start_rp {K : PySem.W.Frag} {B : Lo} {H : Hp} {ds : List Dv} {vs : List V} {N : List Str} (r : Rps K B H ds vs) : RpE K B H (ds.map some ++ List.replicate (N.length - ds.length) none) (start N vs) := by
  have hl := r.length
  refine ⟨by simp [L2.start, hl], fun i d e => ?_⟩
  unfold L2.start
  by_cases hi : i < ds.length
  · rw [List.getElem?_append_left (by simpa using hi), List.getElem?_map] at e
    cases e2 : ds[i]? with
    | none => rw [e2] at e; cases e
    | some d' =>
      rw [e2] at e
      have e3 : d' = d := by simpa using e
      subst e3
      obtain ⟨v, h1, h2⟩ := r.get e2
      refine ⟨v, ?_, h2⟩
      rw [List.getElem?_append_left (by simpa [← hl] using hi), List.getElem?_map, h1]
      rfl
  · rw [List.getElem?_append_right (by simpa using hi), List.getElem?_replicate] at e
    split at e <;> cases e
/-- a def of the text, by its body -/
theorem z_fnQ {G : Gz} {bs : List Str} {k : Nat} {x qual : Str} {st : Stmt} {f : Addr} {fd : FuncData} {N ps : List Str} {nm : List (Str × NameKind)} {body : Fn Ct} (F : Fun G.K x qual st f fd) (S : FnScope N ps (defScope st)) (hnm : (defScope st).names = nm)
    (hbl : ∀ y ∈ bs, G.mg y = none) (hbody : ∀ X : Cx, Cz G bs k X N nm (fun _ => true) → X.stack = X.env :: X.outer → X.env.frame = some X.env.locals → X.env.qual = qual ++ (".<locals>." : Str) → X.env.code = fd.code → ZB X (defBody st) body) : FnZ G (k + 1) f fd ps (spZ G.K ps.length (fDef ps.length N.length body)) := by
  obtain ⟨oc, od, kV, doc, pm, an, cdv, ct, osl, rfl, lk, hcd⟩ := F.ex
  refine ⟨fun A outer s H args us vs Q hgd hr e0 hb r hsp => ?_⟩
  obtain ⟨hvl, B, ds, st0, d, st1, rd, S0, hf, hQ⟩ := hsp
  have KX : G.K.In s.heap := e0.mod.kin.keeps fun b o e => (e0.bs b o e).1
  have lim : s.heap.NoLimit := e0.mod.nolimit.keeps fun b o e => (e0.bs b o e).1
  have hkind : ∀ y ∈ ps.zip us, (defScope st).names.lookup y.1 = some .local ∨ ((defScope st).names.lookup y.1 = some .cell ∧ ((cellsFrom (s.heap.objs.size + 1) (defScope st).names []).lookup y.1).isSome = true) := fun ⟨n, v⟩ hy => by
    rcases S.par n (List.of_mem_zip hy).1 with q | q
    · exact .inl q
    · exact .inr ⟨q, PySem.W.cellsFrom_some _ _ _ (.inl q)⟩
  refine codeAny_call_function hr.depth (KX _ _ lk) rfl S.co S.gen rfl (PySem.W.codeRec_of KX hcd) (hb _ _ _ _ ?_)
  refine wpAny_newFunctionEnv_cells S.kind hkind fun env he s1 x1 => ?_
  subst he
  refine ⟨lim.keeps x1.toInCall.keep, codeAny_func ?_⟩
  obtain ⟨hdl, hf⟩ := Rs.iff_ok hf
  have hdl : ds.length = ps.length := beq_iff_eq.mp hdl
  obtain ⟨c, s2, hbd, hf⟩ := Rs.bind_ok hf
  have I0 := inv_start (CX := CX0) (E := E0) S hr.hd e0 hvl r x1
  have I : Inv (cxOf CX0 G.prog G.w G.K G.mg G.base N qual (defScope st) f cdv A outer s H E0).nox [] (start N vs) H s1 := I0.wish _
  have cz : Cz G bs k (cxOf CX0 G.prog G.w G.K G.mg G.base N qual (defScope st) f cdv A outer s H E0).nox N nm (fun _ => true) :=
    ⟨rfl, S.nd, S.kind, hnm, rfl, rfl, hr.deeper _, hgd, hbl, rfl, rfl, rfl, rfl, rfl, PassesOwn.never⟩
  have hz := (hbody _ cz rfl rfl rfl rfl).run [] s1 (start N vs) H { nx := fun _ H' => Q .non H', rt := Q } I ⟨B, _, st0, c, s2, start_rp (N := N) rd, S0, by rw [hdl]; exact hbd, ?_⟩
  · refine wpAny_mono hz (fun fl s' hs => ?_) fun _ _ z => False.elim z
    have fin : ∀ {σ' : L2.St} {H' : Hp} {v : V} {u : Value}, Inv (cxOf CX0 G.prog G.w G.K G.mg G.base N qual (defScope st) f cdv A outer s H E0).nox [] σ' H' s' → RelV v u → Q v H' → CE outer G.prog G.w H s Q u s' :=
      fun {σ' H' v u} J rv q => ⟨v, H', J.os, J.bare, J.base, J.hok, rv, q⟩
    cases fl with
    | ret u => obtain ⟨v, σ', H', J, rv, q⟩ := hs; exact fin J rv q
    | next => obtain ⟨σ', H', J, q⟩ := hs; exact fin (v := V.non) (u := Value.none) J rfl q
    | brk => obtain ⟨_, _, _, q⟩ := hs; exact False.elim q
    | cont => obtain ⟨_, _, _, q⟩ := hs; exact False.elim q
  · cases c with
    | next env => exact fun B' H' σ' x e S' _ => gc_ok S0 hf hQ B' H' .non x e S' .non
    | ret d' => exact fun B' H' v x e S' r => gc_ok S0 hf hQ B' H' v x e S' r
    | brk _ => cases hf
    | cont _ => cases hf
theorem z_fnT {G : Gz} {bs : List Str} {k : Nat} {x qual : Str} {st : Stmt} {f : Addr} {fd : FuncData} {N ps : List Str} {nm : List (Str × NameKind)} {body : Fn Ct} (F : Fun G.K x qual st f fd) (S : FnScope N ps (defScope st)) (hnm : (defScope st).names = nm)
    (hbl : ∀ y ∈ bs, G.mg y = none) (hbody : ∀ X : Cx, Cz G bs k X N nm (fun _ => true) → X.stack = X.env :: X.outer → X.env.frame = some X.env.locals → ZB X (defBody st) body) : FnZ G (k + 1) f fd ps (spZ G.K ps.length (fDef ps.length N.length body)) := z_fnQ F S hnm hbl fun X c h1 h2 _ _ => hbody X c h1 h2
theorem z_fn {G : Gz} {bs : List Str} {k : Nat} {x qual : Str} {st : Stmt} {f : Addr} {fd : FuncData} {N ps : List Str} {nm : List (Str × NameKind)} {body : Fn Ct} (F : Fun G.K x qual st f fd) (S : FnScope N ps (defScope st)) (hnm : (defScope st).names = nm)
    (hbl : ∀ y ∈ bs, G.mg y = none) (hbody : ∀ X : Cx, Cz G bs k X N nm (fun _ => true) → ZB X (defBody st) body) : FnZ G (k + 1) f fd ps (spZ G.K ps.length (fDef ps.length N.length body)) := z_fnT F S hnm hbl fun X c _ _ => hbody X c
def fCall (φ : Phi) (f : Fn (List Dv)) : Fn Dv := fun env s => (f env s).bind φ
section
variable {G : Gz} {bs : List Str} {k : Nat} {X : Cx} {N : List Str} {nm : List (Str × NameKind)} {ow : Str → Bool} {x : Str} {e : Expr} {es : List Expr} {p pos : Pos} {fs : Fn (List Dv)} {n : Nat} {φ : Phi}
theorem run_fnZ (c : Cz G bs k X N nm ow) {f : Addr} {fd : FuncData} {ps : List Str} (hb : Binds G.K fd ps []) (hn : ps.length = n) (F : FnZ G k f fd ps (spZ G.K n φ)) {pins : List (Addr × Obj)} {σ : L2.St} {H : Hp} {s : Shared} {Q : VK} {us : List Value} {vs : List V}
    (I : Inv X pins σ H s) (r : Vals vs us) (h : spZ X.K n φ vs H Q E0) : wpAny (model X.prog X.w) X.A (call (.ref f) us) (EP X pins σ Q) X.xe s := by
  have hl : (us ++ []).length = ps.length := by rw [List.append_nil, ← r.length, h.1, hn]
  have hbind := hb s us (by rw [← c.gK]; exact I.kIn) hl
  rw [List.append_nil] at hbind
  have e0 := I.env0
  rw [c.gp, c.gw, c.gK, c.gm, c.gb] at e0
  rw [c.gK] at h
  have run := F.run X.A X.stack s H ⟨us, []⟩ us vs Q c.gd c.rm e0 hbind r h
  rw [← c.gp, ← c.gw] at run
  refine wpAny_call (codeAny_mono run fun r s' hq => ?_)
  cases r with
  | error e => exact False.elim hq
  | ok fl =>
    cases fl with
    | ret u => exact I.after hq
    | next => exact False.elim hq
    | brk => exact False.elim hq
    | cont => exact False.elim hq
/-- a def of the module is called -/
theorem z_call (c : Cz G bs k X N nm ow) (F : Fz G k x n φ) (ha : ZA X (e :: es) fs) (hg : gOk nm x = true := by decide +kernel) (hn : (e :: es).length = n := by rfl) (hdb : (x == ("__debug__" : Str)) = false := by decide +kernel)
    (he : starEach (e :: es) X.env = (false, eval e X.env) :: starEach es X.env := by rfl) (hpl : (backTo pos (starEach es X.env)).any (·.1) = false := by rfl) :
    ZE X (.Call (.Name x p) (e :: es) [] pos) (fCall φ fs) := by
  obtain ⟨f, fd, ps, h1, h2, h3, h4, h5⟩ := F.ex
  refine ⟨fun pins s σ H Q I h => ?_⟩
  refine wpAny_Call_Name_kw (ld_glob I (c.gl hg) (by rw [c.gm]; exact h1) ?_ hdb)
  obtain ⟨B, env, st, d, st', hE, hS, hf, hQ⟩ := h
  obtain ⟨ds, st1, hf1, hf⟩ := Rs.bind_ok hf
  refine PySem.W.callWith_K (h₀ := X.base) I.ok.mod.kin (by rw [c.gK]; exact h2) (thn (ha.run pos pins s σ H (fun vs H1 => spZ X.K n φ vs H1 Q E0) I ⟨B, env, st, ds, st1, hE, hS, hf1, fun B1 H1 vs x1 e1 S1 r1 => ?_⟩) fun us s1 ⟨vs, H1, I1, r, q⟩ => ⟨I1.kIn, ?_⟩) he hpl
  · exact ⟨by rw [← r1.length]; exact F.len _ _ _ _ hf, B1, ds, st1, d, st', r1, S1, hf, fun B2 H2 v x2 e2 S2 r2 => hQ B2 H2 v (x1.trans x2) (e2.trans e1) S2 r2⟩
  · exact run_fnZ c h3 h4 h5 I1 r q
end
end Z

namespace Z
open PySem PySem.Spec PyProof.Rows L2

/-! ### the law's end -/
theorem rps_ints {K : PySem.W.Frag} {B : Lo} {H : Hp} : ∀ ns : List Int, Rps K B H (ns.map Dv.int) (ns.map V.int)
  | [] => .nil
  | n :: r => .cons (.int n) (rps_ints r)
/-- where the tables of the defs that make lambdas lie, all of them empty yet -/
def TabsT (K : PySem.W.Frag) (h : Heap) : Prop := ∀ x ∈ tabN, ∀ c P, PySem.W.tabIn K x = some (c, P) → h.get? P = some (PySem.W.tabObj #[]) ∧ K.lookup P = none ∧ PySem.W.CodeHd h c P
def TabsB (K : PySem.W.Frag) (mg : Str → Option Value) (base : Heap) : Prop := ∀ x ∈ tabN, ∀ c P, PySem.W.tabIn K x = some (c, P) → LamX.TabB base mg c P
def isTab (K : PySem.W.Frag) (b : Addr) : Prop := ∃ x ∈ tabN, ∃ c, PySem.W.tabIn K x = some (c, b)
theorem endZ {P : Program} {w : World} {K : PySem.W.Frag} {mg mb : Str → Option Value} {k : Nat} {fa a : Addr} {fd : FuncData} {x : Str} {φ : Phi} {s₁ : Shared} {vs : List Value} {ns : List Int}
    (KX : K.In s₁.heap) (hns : s₁.heap.Ns mainGlobals mg) (hb : s₁.heap.Ns builtinsNs mb) (hbb : ∀ x : Str, x ≠ "__name__" → mb x = bootBuiltins x) (hlim : s₁.heap.NoLimit) (hg : s₁.gens = #[])
    (ha : s₁.heap.get? a = some { cls := .type "list", data := .seq vs.toArray }) (hi : IntsAre vs ns) (hl : ns.length ≤ sizeLine) (hr : Room k callerA)
    (hbm : ∃ (bm : Addr) (ob : Obj), mg "__builtins__" = some (.ref bm) ∧ bm ≠ builtinsNs ∧ s₁.heap.get? bm = some ob ∧ ob.cls = .type "module" ∧ ob.dict = some builtinsNs ∧ ob.data = .plain)
    (TT : TabsT K s₁.heap)
    (F : ∀ base : Heap, K.In base → base.Ns mainGlobals mg → TabsB K mg base → FnZ ⟨P, w, K, mg, base⟩ k fa fd [x] (spZ K 1 φ)) (hbind : ∀ (s : Shared) (u : Value), BindsTo s fd ⟨[u], []⟩ [(x, u)])
    (hφ : ∃ s', φ [.ls (ns.map .int)] [] = .ok (.bl true) s') :
    codeAny (model P w) callerA (.call (.ref fa) ⟨[.ref a], []⟩) (fun r s' => r = .ok (.ret (.bool true)) ∧ OldK s₁.heap s'.heap ∧ s'.os = s₁.os ∧ AllBare s'.gens) s₁ := by
  have rv : Vals (ns.map V.int) vs := vals_ints hi
  have lenV := hi.length
  let ob : Obj := { cls := .type "list", data := .seq vs.toArray }
  have tabA : ∀ b, isTab K b → s₁.heap.get? b = some (PySem.W.tabObj #[]) := fun b ⟨x, hx, c, e⟩ => (TT x hx c b e).1
  have notTab : ∀ {b : Addr} {o : Obj}, s₁.heap.get? b = some o → o ≠ PySem.W.tabObj #[] → ¬ isTab K b := fun {b o} e n z => n (Option.some.inj (e.symm.trans (tabA b z)))
  -- the abstract heap at the entry: the script, the tables
  have core : ∀ H : Hp, (∀ b u, H b = some u → (b = a ∧ u = .frz ob (.lst (ns.map V.int)) ∧ K.lookup a = none) ∨ (isTab K b ∧ u = .tbl #[])) → (∀ b, isTab K b → H b = some (.tbl #[])) → Ls K ⟨[], []⟩ H a (ns.map V.int) →
      codeAny (model P w) callerA (.call (.ref fa) ⟨[.ref a], []⟩) (fun r s' => r = .ok (.ret (.bool true)) ∧ OldK s₁.heap s'.heap ∧ s'.os = s₁.os ∧ AllBare s'.gens) s₁ := by
    intro H hA hT hS
    have hok : HOk P w H s₁.heap := fun b u e => by
      rcases hA b u e with ⟨rfl, rfl, _⟩ | ⟨z, rfl⟩
      · exact ⟨ha, by rw [List.length_map]; exact hl, vs, _, rv, ha⟩
      · exact tabA b z
    have free : ∀ {b : Addr} {o : Obj}, s₁.heap.get? b = some o → o ≠ ob → o ≠ PySem.W.tabObj #[] → H b = none := fun {b o} e h1 h2 => by
      cases q : H b with
      | none => rfl
      | some u =>
        rcases hA b u q with ⟨rfl, _, _⟩ | ⟨z, _⟩
        · rw [ha] at e; exact absurd (Option.some.inj e).symm h1
        · rw [tabA b z] at e; exact absurd (Option.some.inj e).symm h2
    have notDict : ∀ {o : Obj} {es : Array DictEntry} {ep : Nat}, o.data = .dict es ep → o ≠ ob ∧ o ≠ PySem.W.tabObj #[] := fun d => by
      refine ⟨fun e => ?_, fun e => ?_⟩
      · rw [e] at d
        have d' : Data.seq vs.toArray _ = Data.dict _ _ := d
        cases d'
      · rw [e] at d
        have d' : Data.fields #[] = Data.dict _ _ := d
        cases d'
    have nsK : ∀ {b : Addr} {m : Str → Option Value}, s₁.heap.Ns b m → (hidT s₁.heap H).Ns b m := fun {b m} ⟨o, es, ep, e, d, r⟩ => ⟨o, es, ep, hidT_get e (free e (notDict d).1 (notDict d).2), d, r⟩
    have hKb : K.In (hidT s₁.heap H) := fun b o e => hidT_get (KX b o e) (by
      cases q : H b with
      | none => rfl
      | some u =>
        rcases hA b u q with ⟨rfl, _, hk⟩ | ⟨⟨x, hx, c, et⟩, _⟩
        · rw [hk] at e; cases e
        · rw [(TT x hx c b et).2.1] at e; cases e)
    have hM : Mod K mg (hidT s₁.heap H) := ⟨hKb, nsK hns, ⟨mb, nsK hb, hbb⟩, let ⟨mc, h1, h2⟩ := hlim; ⟨mc, nsK h1, h2⟩⟩
    have e0 : Env0 P w K mg (hidT s₁.heap H) callerA [] s₁ H := ⟨rfl, hM, fun b o e => of_hidT e, Nat.le_of_eq (hidT_size _ _), trivial, fun b hb => absurd (show b ∈ ([] : List Addr) from hb) (by simp), hok, .of_eq hg⟩
    have hTB : TabsB K mg (hidT s₁.heap H) := fun x hx c Q et => by
      obtain ⟨hQ, _, hC⟩ := TT x hx c Q et
      refine ⟨?_, ?_, fun z => ?_⟩
      · obtain ⟨o, us, file, tf, flags, tg, inF, text, tt, e1, r1, r2, r3, rest⟩ := hC
        refine ⟨o, us, file, tf, flags, tg, inF, text, tt, hidT_get e1 (free e1 (fun z => ?_) fun z => ?_), r1, r2, r3, rest⟩
        · rw [z] at r2
          have r2' : Data.seq vs.toArray _ = Data.fields us := r2
          cases r2'
        · rw [z] at r1
          cases r1
      · obtain ⟨bm, o, b1, b2, b3, b4, b5, b6⟩ := hbm
        have nG : bm ≠ mainGlobals := fun q => by
          obtain ⟨o', es, ep, e', hd, _⟩ := hns
          rw [q, e'] at b3
          cases b3
          rw [hd] at b6
          cases b6
        have nQ : bm ≠ Q := fun q => by
          rw [q, hQ] at b3
          cases b3
          cases b6
        refine ⟨bm, o, b1, b2, nG, nQ, hidT_get b3 (free b3 (fun z => ?_) fun z => ?_), b4, b5, b6⟩
        · rw [z] at b6
          have b6' : Data.seq vs.toArray _ = Data.plain := b6
          cases b6'
        · rw [z] at b6
          cases b6
      · obtain ⟨o', es, ep, e', hd, _⟩ := hns
        rw [z, hQ] at e'
        cases e'
        cases hd
    obtain ⟨s', hφ⟩ := hφ
    have hsp : spZ K 1 φ [.ref a] H (fun v _ => v = .bl true) E0 := ⟨rfl, ⟨[], []⟩, _, [], _, s', .cons (.ls hS (rps_ints ns)) .nil,
      ⟨List.nodup_nil, rfl, fun n a o e => by simp at e, fun b hb => absurd hb (by simp), fun x hx c P e => ⟨#[], hT P ⟨x, hx, c, e⟩, trivial, fun pos cv z => by
        have z : codeAmong pos [] = some cv := z
        simp [codeAmong] at z⟩⟩, hφ, fun B' H' v _ _ _ r => by cases r; rfl⟩
    refine codeAny_mono ((F _ hKb (nsK hns) hTB).run callerA [] s₁ H ⟨[.ref a], []⟩ [.ref a] [.ref a] _ rfl hr e0 (hbind s₁ (.ref a)) (.cons rfl .nil) hsp) fun r s2 h => ?_
    cases r with
    | error e => exact False.elim h
    | ok fl =>
      cases fl with
      | next => exact False.elim h
      | brk => exact False.elim h
      | cont => exact False.elim h
      | ret u =>
        obtain ⟨v, H', os, bare, un, hok', r', q⟩ := h
        have q' : v = .bl true := q
        subst q'
        obtain rfl : u = Value.bool true := r'
        have key : ∀ b o, ¬ isTab K b → s₁.heap.get? b = some o → s2.heap.get? b = some o := fun b o nb e => by
          cases q : H b with
          | none => exact un.keep b o e q (fun z => absurd (show b ∈ ([] : List Addr) from z) (by simp)) (by simp)
          | some u =>
            rcases hA b u q with ⟨rfl, rfl, _⟩ | ⟨z, _⟩
            · obtain ⟨e2, _⟩ := hok' b _ (un.frzs b _ _ q)
              rw [ha] at e; cases e
              exact e2
            · exact absurd z nb
        have grown : ∀ b, isTab K b → ∃ more : Array Value, s2.heap.get? b = some (PySem.W.tabObj more) := fun b hb => by
          obtain ⟨more, z⟩ := un.tbls b #[] (hT b hb)
          exact ⟨_, hok' b _ z⟩
        refine ⟨rfl, ⟨fun b o e => ?_, fun b o e => ?_⟩, os, bare⟩
        · by_cases hb : isTab K b
          · obtain ⟨more, hm⟩ := grown b hb
            have eT := tabA b hb
            rw [eT] at e
            cases e
            obtain ⟨x, hx, c, et⟩ := hb
            obtain ⟨_, _, hC⟩ := TT x hx c b et
            exact .inr (.inl ⟨(hC.tab eT).isCodeTable, rfl, #[], more, rfl, by rw [Array.empty_append]; exact hm⟩)
          · exact .inl (key b o hb e)
        · by_cases hb : isTab K b
          · obtain ⟨more, hm⟩ := grown b hb
            exact ⟨_, hm⟩
          · exact ⟨o, key b o hb e⟩
  have aT : ¬ isTab K a := notTab ha (fun z => by
    have z' : Data.seq vs.toArray _ = Data.fields #[] := congrArg Obj.data z
    cases z')
  classical
  cases hk : K.lookup a with
  | some o =>
    have e := KX a o hk
    rw [ha] at e
    cases e
    refine core (fun b => if isTab K b then some (.tbl #[]) else none) (fun b u e => ?_) (fun b hb => if_pos hb) (.inr (.inr ⟨_, vs.toArray, _, hk, rfl, rfl, rfl, by rw [List.size_toArray, lenV]; exact hl, by simpa using rv⟩))
    by_cases hb : isTab K b
    · have e' := (if_pos hb).symm.trans e
      exact .inr ⟨hb, (Option.some.inj e').symm⟩
    · have e' := (if_neg hb).symm.trans e
      cases e'
  | none =>
    refine core (fun b => if b = a then some (.frz ob (.lst (ns.map V.int))) else if isTab K b then some (.tbl #[]) else none) (fun b u e => ?_) (fun b hb => (if_neg (show ¬ b = a from fun z => aT (by rw [← z]; exact hb))).trans (if_pos hb)) (.inr (.inl ⟨ob, if_pos rfl⟩))
    by_cases hb : b = a
    · have e' := (if_pos hb).symm.trans e
      exact .inl ⟨hb, (Option.some.inj e').symm, hk⟩
    · have e1 := (if_neg hb).symm.trans e
      by_cases hb2 : isTab K b
      · have e' := (if_pos hb2).symm.trans e1
        exact .inr ⟨hb2, (Option.some.inj e').symm⟩
      · have e' := (if_neg hb2).symm.trans e1
        cases e'
/-- the goal behind the head -/
theorem walkZ {l : PySem.W.OpenLaw} {n k : Nat} {q : Program} {loose : List Str} {XP : (Str → Option Value) → Heap → Prop} {YP : World → Heap → Prop} {d : DefRec} {K : Params → PySem.W.Frag} {x : Str} {φ : Phi}
    (hn : l.most = some n) (hn2 : n ≤ sizeLine) (hdf : d.params.defaults = []) (hr : Room k callerA) (hY : ∀ (w : World) (h : Heap), YP w h → (K w.params).In h)
    (F : ∀ (w : World) (mg : Str → Option Value) (fa : Addr) (h : Heap), (K w.params).In h → h.Ns mainGlobals mg → mg d.name = some (.ref fa) →
      ∃ fd : FuncData, (∀ (s : Shared) (u : Value), BindsTo s fd ⟨[u], []⟩ [(x, u)]) ∧ (∀ y ∈ tabN, ∀ c P, PySem.W.tabIn (K w.params) y = some (c, P) → (K w.params).lookup P = none) ∧ ∀ base : Heap, (K w.params).In base → base.Ns mainGlobals mg → TabsB (K w.params) mg base → FnZ ⟨l.prog, w, K w.params, mg, base⟩ k fa fd [x] (spZ (K w.params) 1 φ))
    (hφ : ∀ ns : List Int, ns.length ≤ n → ∃ s', φ [.ls (ns.map .int)] [] = .ok (.bl true) s')
    (hrec : ∀ y ∈ tabN, ((recsOf q).find? (fun e => e.name == y)).isSome = true := by intro y hy; cases hy) : PySem.W.WalkO q loose XP YP l.row.toRowW d [] (fun f vs => PySem.call f vs) := by
  refine Att.attach_call hn hdf fun w s₀ s₁ mg mb fa o pm cd doc a vs ns G Y ho hd hcd hmg hobj hints hlen hg => ?_
  have KX := hY w _ Y
  obtain ⟨fd, hb, hN, hF⟩ := F w mg fa _ KX G.T.g hmg
  refine endZ KX G.T.g G.T.b G.T.builtins G.T.nolimit hg hobj hints (Nat.le_trans hlen hn2) hr G.T.bmain (fun y hy c P e => ?_) hF hb (hφ ns hlen)
  obtain ⟨d', hd'⟩ := Option.isSome_iff_exists.mp (hrec y hy)
  obtain ⟨h1, h2⟩ := PySem.W.tab_of G.T KX hd' e
  exact ⟨h2, hN y hy c P e, h1⟩
/-- a def of the module, with all that is asked of it -/
theorem fz_mk {G : Gz} {bs : List Str} {k n : Nat} {x qual : Str} {st : Stmt} {f : Addr} {fd : FuncData} {N ps : List Str} {nm : List (Str × NameKind)} {body : Fn Ct} (F : Fun G.K x qual st f fd) (hm : G.mg x = some (.ref f)) (hb : Binds G.K fd ps []) (hn : ps.length = n) (S : FnScope N ps (defScope st)) (hnm : (defScope st).names = nm)
    (hbl : ∀ y ∈ bs, G.mg y = none) (hbody : ∀ X : Cx, Cz G bs k X N nm (fun _ => true) → ZB X (defBody st) body) : Fz G (k + 1) x n (fDef n N.length body) := by
  subst hn
  refine ⟨fun ds s d s' h => ?_, f, fd, ps, hm, F.kp, hb, rfl, z_fn F S hnm hbl hbody⟩
  exact beq_iff_eq.mp (Rs.iff_ok h).1
end Z

namespace Z
open PySem PySem.Spec PyProof.Rows L2

/-! ### a[lo:hi] -/
def tOfO (K : PySem.W.Frag) (f : Fn (Option Int)) : TO := fun σ H Q => ∃ B env s o s', RpE K B H env σ ∧ Sim K B H s ∧ f env s = .ok o s' ∧
  ∀ (B' : Lo) (H' : Hp), Ext B H B' H' → B'.hid = B.hid → Sim K B' H' s' → Q o H'
abbrev ZO (X : Cx) (o : Option Expr) (f : Fn (Option Int)) : Prop := PO X o (tOfO X.K f)
def fNoPart : Fn (Option Int) := fun _ s => .ok none s
def fPart (f : Fn Dv) : Fn (Option Int) := fun env s => (f env s).bind fun d s1 => match d with | .int i => .ok (some i) s1 | _ => .bad
theorem po_mono {X : Cx} {e : Option Expr} {t t' : TO} (h : PO X e t) (hh : ∀ σ H Q, t' σ H Q → t σ H Q) : PO X e t' := ⟨fun pins s σ H Q I q => h.run pins s σ H Q I (hh _ _ _ q)⟩
section
variable {G : Gz} {bs : List Str} {k : Nat} {X : Cx} {N : List Str} {nm : List (Str × NameKind)} {ow : Str → Bool} {a b e o i v : Expr} {es : List Expr} {fa fb fc fo fi fv : Fn Dv} {fs : Fn (List Dv)} {pos p : Pos} {x : Str}
theorem zo_none : ZO X none fNoPart := po_mono po_none fun σ H Q q => by
  obtain ⟨B, env, s, d, s', hE, hS, hf, hQ⟩ := q
  cases hf
  exact hQ B H (Ext.refl _ _) rfl hS
theorem zo_some (he : ZE X e fa) : ZO X (some e) (fPart fa) := po_mono (po_some he) fun σ H Q q => by
  obtain ⟨B, env, s, d, s', hE, hS, hf, hQ⟩ := q
  obtain ⟨y, s1, h1, hf⟩ := Rs.bind_ok hf
  cases y with
  | int j =>
    cases hf
    refine ⟨B, env, s, _, _, hE, hS, h1, fun B1 H1 v x1 e1 S1 r1 => ?_⟩
    cases r1
    exact ⟨j, rfl, hQ B1 H1 x1 e1 S1⟩
  | _ => cases hf
def cutD (xs : List Dv) (lo hi : Option Int) : List Dv := (xs.drop (HT.sIx xs.length 0 lo)).take (HT.sIx xs.length xs.length hi - HT.sIx xs.length 0 lo)
theorem cut_rp {K : PySem.W.Frag} {B : Lo} {H : Hp} {ds : List Dv} {xs : List V} (r : Rps K B H ds xs) (lo hi : Option Int) : Rps K B H (cutD ds lo hi) (cutV xs lo hi) := by
  unfold cutD cutV
  rw [r.length]
  exact (r.drop _).take _
theorem cutD_whole (ds : List Dv) (lo hi : Option Int) (h : HT.sIx ds.length 0 lo = 0 ∧ HT.sIx ds.length ds.length hi = ds.length) : cutD ds lo hi = ds := by
  unfold cutD
  rw [h.1, h.2]; simp
/-- a slice of a tuple, a text, a list -/
def gSl (x : Dv) (lo hi : Option Int) (s : Sto) : Rs Dv := match x with
  | .tup ds => .ok (.tup (cutD ds lo hi)) s
  | .str z => Rs.iff (decide (z.length ≤ 16777216)) (.ok (.str (cutS z lo hi)) s)
  | .ls ds => .ok (.ls (cutD ds lo hi)) s
  | .loc n => match s[n]? with | some (.lst ds) => .ok (.ls (cutD ds lo hi)) s | _ => .bad
  | _ => .bad
def rSlZ (K : PySem.W.Frag) : V → Option Int → Option Int → Hp → VK → Prop := fun x lo hi H Q => ∃ a xs, x = .ref a ∧ SqT K H a xs ∧
  (HT.sIx xs.length 0 lo = 0 ∧ HT.sIx xs.length xs.length hi = xs.length → Q (.ref a) H) ∧ (¬ (HT.sIx xs.length 0 lo = 0 ∧ HT.sIx xs.length xs.length hi = xs.length) → ∀ p o, H p = none → o.dict = none → Q (.ref p) (upd H p (.frz o (.tup (cutV xs lo hi)))))
theorem sl_tupZ : SlR X (rSlZ X.K) := by
  intro pins s σ H x v vl vu lo hi sl Q I rx hs pl pu h
  obtain ⟨a, xs, rfl, hx, q1, q2⟩ := h
  cases rx
  obtain ⟨its, r, ht, hz⟩ := I.tuple hx
  have hlen : its.toArray.size = xs.length := by rw [List.size_toArray]; exact r.length.symm
  refine ⟨"tuple", _, PyProof.Rows.slot_tuple_getitem.lookup, ht.typeIs, ?_⟩
  by_cases hw : HT.sIx xs.length 0 lo = 0 ∧ HT.sIx xs.length xs.length hi = xs.length
  · exact getItem_tuple_whole ht hs pl pu (by rw [hlen]; exact hw) ⟨.ref a, H, I, rfl, q1 hw⟩
  · refine HT.getItem_tuple_cut ht hs pl pu (by rw [hlen]; exact hw) ?_ (by rw [hlen]; exact hz)
    rw [hlen]
    exact tupK_new (t' := s.toks) I (Nat.le_trans (cutV_length xs lo hi) hz) ((r.drop (HT.sIx xs.length 0 lo)).take (HT.sIx xs.length xs.length hi - HT.sIx xs.length 0 lo)) (q2 hw)
def fSl (f : Fn Dv) (l h : Fn (Option Int)) : Fn Dv := fun env s => (f env s).bind fun x s1 => (l env s1).bind fun lo s2 => (h env s2).bind fun hi s3 => gSl x lo hi s3
theorem ls_back {K : PySem.W.Frag} {B : Lo} {H : Hp} {s : Sto} {d : List Dv} {Q : VK} (hQ : PostZ K B H s (.ls d) Q) {B' : Lo} {H' : Hp} {p : Addr} {xs : List V} (x : Ext B H ⟨B'.locs, p :: B'.hid⟩ H') (e : B'.hid = B.hid) (S : Sim K ⟨B'.locs, p :: B'.hid⟩ H' s)
    (hh : p ∉ B'.hid) (hl : H' p = some (.lst xs)) (r : Rps K ⟨B'.locs, p :: B'.hid⟩ H' d xs) : Q (.ref p) H' :=
  hQ ⟨B'.locs, B'.hid⟩ H' _ (x.drop fun b hb => by rw [e]; exact hb) e S.back (.ls (.inl ⟨hl, (S.hid p List.mem_cons_self).1, hh⟩) (r.mono Mo.back))
theorem z_slice {lo hi : Option Expr} {p2 : Pos} {fl fh : Fn (Option Int)} (he : ZE X e fa) (hl : ZO X lo fl) (hh : ZO X hi fh) : ZE X (.Subscript e (.Slice lo hi none p2) pos) (fSl fa fl fh) := by
  refine pe_mono (pe_slice (SlR.or sl_tupZ (SlR.or sl_str sl_list)) he hl hh) fun σ H Q q => ?_
  obtain ⟨B, env, s, d, s', hE, hS, hf, hQ⟩ := q
  obtain ⟨x, s1, h1, hf⟩ := Rs.bind_ok hf
  obtain ⟨l, s2, h2, hf⟩ := Rs.bind_ok hf
  obtain ⟨h, s3, h3, hf⟩ := Rs.bind_ok hf
  refine ⟨B, env, s, _, _, hE, hS, h1, fun B1 H1 v x1 e1 S1 r1 => ?_⟩
  refine ⟨B1, env, s1, _, _, hE.mono x1.mo, S1, h2, fun B2 H2 x2 e2 S2 => ?_⟩
  refine ⟨B2, env, s2, _, _, hE.mono (x1.trans x2).mo, S2, h3, fun B3 H3 x3 e3 S3 => ?_⟩
  have xx := x1.trans (x2.trans x3)
  have ee := e3.trans (e2.trans e1)
  have hQ3 : PostZ X.K B3 H3 s' d Q := fun B4 H4 u x4 e4 S4 r4 => hQ B4 H4 u (xx.trans x4) (e4.trans ee) S4 r4
  have r3 := r1.mono (x2.trans x3).mo
  have asList : ∀ {a : Addr} {xs : List V} {ds : List Dv}, v = .ref a → SqL X.K H3 a xs → Rps X.K B3 H3 ds xs → s' = s3 → d = .ls (cutD ds l h) → rSlL X.K v l h H3 Q := fun {a xs ds} ev hq rr es ed => by
    subst ev es ed
    refine ⟨a, xs, rfl, hq, fun p hp => ?_⟩
    exact new_lst S3 (cut_rp rr l h) hp fun B' H' p xs x e S hh _ hl r => ls_back hQ3 x e S hh hl r
  cases x with
  | tup ds =>
    cases hf
    cases r3 with
    | tup h4 h5 =>
      refine .inl ⟨_, _, rfl, h4.sq, fun hw => ?_, fun hw p o hp hd => new_tup S3 (cut_rp h5 l h) hQ3 hp hd⟩
      rw [← h5.length] at hw
      rw [cutD_whole _ _ _ hw] at hQ3
      exact hQ3.same S3 (.tup h4 h5)
  | str z =>
    obtain ⟨hz, hf⟩ := Rs.iff_ok hf
    cases hf
    cases r3
    exact .inr (.inl ⟨z, rfl, len_line (of_decide_eq_true hz), hQ3.same S3 (.str _)⟩)
  | ls ds =>
    cases hf
    cases r3 with
    | ls h4 h5 => exact .inr (.inr (asList rfl h4.sq h5 rfl rfl))
  | loc n =>
    cases r3 with
    | loc h4 =>
      obtain ⟨o, ho, ro⟩ := S3.at h4
      have hf' : (match s3[n]? with | some (.lst ds) => Rs.ok (Dv.ls (cutD ds l h)) s3 | _ => Rs.bad) = Rs.ok d s' := hf
      rw [ho] at hf'
      cases o with
      | lst ds =>
        obtain ⟨xs, h5, h6⟩ := ro
        injection hf' with e1 e2
        exact .inr (.inr (asList rfl (.of h5) h6 e2.symm e1.symm))
      | _ => cases hf'
  | _ => cases hf

/-! ### builtins called -/
def CallZ (K : PySem.W.Frag) (r : List V → Hp → VK → Prop) (g : List Dv → Sto → Rs Dv) : Prop :=
  ∀ (B : Lo) (H : Hp) (s : Sto) (xs : List Dv) (vs : List V) (d : Dv) (s' : Sto) (Q : VK), Sim K B H s → Rps K B H xs vs → g xs s = .ok d s' → PostZ K B H s' d Q → r vs H Q
def CallLZ (K : PySem.W.Frag) (r : List V → Hp → VK → Prop) (g : List Dv → Sto → Rs (List Dv)) : Prop :=
  ∀ (B : Lo) (H : Hp) (s : Sto) (xs : List Dv) (vs : List V) (d : List Dv) (s' : Sto) (Q : VK), Sim K B H s → Rps K B H xs vs → g xs s = .ok d s' →
    (∀ (B' : Lo) (H' : Hp) (p : Addr) (xs : List V), Ext B H ⟨B'.locs, p :: B'.hid⟩ H' → B'.hid = B.hid → Sim K ⟨B'.locs, p :: B'.hid⟩ H' s' → p ∉ B'.hid → H p = none → H' p = some (.lst xs) → Rps K ⟨B'.locs, p :: B'.hid⟩ H' d xs → Q (.ref p) H') → r vs H Q
variable {r : List V → Hp → VK → Prop}
theorem call_to {g : List Dv → Sto → Rs Dv} (hg : CallZ X.K r g) : ∀ σ H Q, tOf X.K (fCall g fs) σ H Q → tCB r (tOfA X.K fs) σ H Q := fun σ H Q q => by
  obtain ⟨B, env, s, d, s', hE, hS, hf, hQ⟩ := q
  obtain ⟨x, s1, h1, hf⟩ := Rs.bind_ok hf
  refine ⟨B, env, s, _, _, hE, hS, h1, fun B1 H1 v x1 e1 S1 r1 => ?_⟩
  exact hg B1 H1 s1 x v d s' Q S1 r1 hf fun B2 H2 u x2 e2 S2 r2 => hQ B2 H2 u (x1.trans x2) (e2.trans e1) S2 r2
def fCallL (g : List Dv → Sto → Rs (List Dv)) (f : Fn (List Dv)) : Fn (List Dv) := fun env s => (f env s).bind g
theorem callL_to {g : List Dv → Sto → Rs (List Dv)} (hg : CallLZ X.K r g) : ∀ σ H Q, tOfL X.K (fCallL g fs) σ H Q → tCB r (tOfA X.K fs) σ H Q := fun σ H Q q => by
  obtain ⟨B, env, s, d, s', hE, hS, hf, hQ⟩ := q
  obtain ⟨x, s1, h1, hf⟩ := Rs.bind_ok hf
  refine ⟨B, env, s, _, _, hE, hS, h1, fun B1 H1 v x1 e1 S1 r1 => ?_⟩
  exact hg B1 H1 s1 x v d s' Q S1 r1 hf fun B2 H2 p xs x2 e2 S2 hh hn hl r2 => hQ B2 H2 p xs (x1.trans x2) (e2.trans e1) S2 hh (new_none x1 x2 S2 hn) hl r2
theorem z_callB {id : String} {g : List Dv → Sto → Rs Dv} (c : Cz G bs k X N nm ow) (hc : CallR X (.builtin id) r) (hg : CallZ X.K r g) (ha : ZA X (e :: es) fs) (hv : bootBuiltins x = some (.builtin id)) (hb : bOk bs nm x = true) (hn : x ≠ "__name__") (hdb : (x == ("__debug__" : Str)) = false)
    (he : starEach (e :: es) X.env = (false, eval e X.env) :: starEach es X.env) (hpl : (backTo pos (starEach es X.env)).any (·.1) = false) : ZE X (.Call (.Name x p) (e :: es) [] pos) (fCall g fs) :=
  pe_mono (pe_callB hc (c.blt hb).1 (c.blt hb).2 hv ha hn hdb he hpl) (call_to hg)
theorem z_callTy {T : String} {g : List Dv → Sto → Rs Dv} (c : Cz G bs k X N nm ow) (hc : CallR X (.type T) r) (hg : CallZ X.K r g) (ha : ZA X (e :: es) fs) (hv : bootBuiltins x = some (.type T)) (hb : bOk bs nm x = true) (hn : x ≠ "__name__") (hdb : (x == ("__debug__" : Str)) = false)
    (he : starEach (e :: es) X.env = (false, eval e X.env) :: starEach es X.env) (hpl : (backTo pos (starEach es X.env)).any (·.1) = false) : ZE X (.Call (.Name x p) (e :: es) [] pos) (fCall g fs) :=
  pe_mono (pe_callTy hc (c.blt hb).1 (c.blt hb).2 hv ha hn hdb he hpl) (call_to hg)
theorem z_callBL {id : String} {g : List Dv → Sto → Rs (List Dv)} (c : Cz G bs k X N nm ow) (hc : CallR X (.builtin id) r) (hg : CallLZ X.K r g) (ha : ZA X (e :: es) fs) (hv : bootBuiltins x = some (.builtin id)) (hb : bOk bs nm x = true) (hn : x ≠ "__name__") (hdb : (x == ("__debug__" : Str)) = false)
    (he : starEach (e :: es) X.env = (false, eval e X.env) :: starEach es X.env) (hpl : (backTo pos (starEach es X.env)).any (·.1) = false) : ZL X (.Call (.Name x p) (e :: es) [] pos) (fCallL g fs) :=
  pe_mono (pe_callB hc (c.blt hb).1 (c.blt hb).2 hv ha hn hdb he hpl) (callL_to hg)
theorem z_callTyL {T : String} {g : List Dv → Sto → Rs (List Dv)} (c : Cz G bs k X N nm ow) (hc : CallR X (.type T) r) (hg : CallLZ X.K r g) (ha : ZA X (e :: es) fs) (hv : bootBuiltins x = some (.type T)) (hb : bOk bs nm x = true) (hn : x ≠ "__name__") (hdb : (x == ("__debug__" : Str)) = false)
    (he : starEach (e :: es) X.env = (false, eval e X.env) :: starEach es X.env) (hpl : (backTo pos (starEach es X.env)).any (·.1) = false) : ZL X (.Call (.Name x p) (e :: es) [] pos) (fCallL g fs) :=
  pe_mono (pe_callTy hc (c.blt hb).1 (c.blt hb).2 hv ha hn hdb he hpl) (callL_to hg)
/-- len -/
def gLen (xs : List Dv) (s : Sto) : Rs Dv := match xs with
  | [.str z] => Rs.iff (decide (z.length ≤ 16777216)) (.ok (.int z.length) s)
  | [x] => match seqOf s x with | some ds => .ok (.int ds.length) s | none => .bad
  | _ => .bad
theorem cz_len {K : PySem.W.Frag} : CallZ K (fun xs H Q => ∃ x n, xs = [x] ∧ LenV K x H n ∧ Q (.int n) H) gLen := by
  intro B H s xs vs d s' Q S r h q
  unfold gLen at h
  split at h
  · obtain ⟨hz, h⟩ := Rs.iff_ok h
    cases h
    cases r with
    | cons r1 rr =>
      cases r1; cases rr
      exact ⟨_, _, rfl, ⟨len_line (of_decide_eq_true hz), rfl⟩, q.same S (.int _)⟩
  · split at h
    · rename_i e1
      cases h
      cases r with
      | cons r1 rr =>
        cases rr
        obtain ⟨a, us, rfl, hq, r2⟩ := seq_of S r1 e1
        refine ⟨_, us.length, rfl, ?_, by rw [← r2.length]; exact q.same S (.int _)⟩
        rcases hq with hq | hq
        · exact .inl ⟨us, hq, rfl⟩
        · exact .inr ⟨us, hq, rfl⟩
    · cases h
  · cases h
theorem z_len (c : Cz G bs k X N nm ow) (ha : ZA X [e] fs) (hb : bOk bs nm "len" = true := by decide +kernel) (he : starEach [e] X.env = (false, eval e X.env) :: starEach [] X.env := by rfl) : ZE X (.Call (.Name "len" p) [e] [] pos) (fCall gLen fs) :=
  z_callB c call_len cz_len ha PySem.boot_len hb (by decide +kernel) (by decide +kernel) he rfl
/-- tuple(..) -/
def gTuple (xs : List Dv) (s : Sto) : Rs Dv := match xs with
  | [.tup ds] => .ok (.tup ds) s
  | [x] => match seqOf s x with | some ds => .ok (.tup ds) s | none => .bad
  | _ => .bad
theorem call_tupleZ : CallR X (.type "tuple") (fun xs H Q => ∃ p ys, xs = [.ref p] ∧ ((SqL X.K H p ys ∧ ∀ l o, H l = none → o.dict = none → Q (.ref l) (upd H l (.frz o (.tup ys)))) ∨ (SqT X.K H p ys ∧ Q (.ref p) H))) := by
  intro pins s σ H xs us Q I r h
  obtain ⟨p, ys, rfl, h⟩ := h
  rw [Vals.ref1 r]
  rcases h with ⟨hq, q⟩ | ⟨hq, q⟩
  · obtain ⟨its, r', pl, hz⟩ := I.list hq
    have hlen := r'.length
    refine call_tuple_list pl.isList (fun h' kp => ?_) (by simp only [List.size_toArray] <;> omega)
    have I1 : Inv X pins σ H { s with heap := h' } := I.kept (t' := s.toks) kp
    exact tupK_new (t' := s.toks) I1 hz r' q
  · obtain ⟨its, r', pl, hz⟩ := I.tuple hq
    exact call_tuple_same pl ⟨.ref p, H, I, rfl, q⟩
theorem cz_tuple {K : PySem.W.Frag} : CallZ K (fun xs H Q => ∃ p ys, xs = [.ref p] ∧ ((SqL K H p ys ∧ ∀ l o, H l = none → o.dict = none → Q (.ref l) (upd H l (.frz o (.tup ys)))) ∨ (SqT K H p ys ∧ Q (.ref p) H))) gTuple := by
  intro B H s xs vs d s' Q S r h q
  unfold gTuple at h
  split at h
  · cases h
    cases r with
    | cons r1 rr =>
      cases rr
      cases r1 with
      | tup h1 h2 => exact ⟨_, _, rfl, .inr ⟨h1.sq, q.same S (.tup h1 h2)⟩⟩
  · rename_i x hx
    split at h
    · rename_i ds e1
      cases h
      cases r with
      | @cons d0 v0 ds0 vs0 r1 rr =>
        cases rr
        have lst : ∃ a us, v0 = V.ref a ∧ SqL K H a us ∧ Rps K B H ds us := by
          cases r1 with
          | tup h1 h2 => exact absurd rfl (hx _)
          | ls h1 h2 => cases e1; exact ⟨_, _, rfl, h1.sq, h2⟩
          | loc h1 =>
            obtain ⟨o, ho, ro⟩ := S.at h1
            simp only [seqOf, ho] at e1
            cases o with
            | lst es =>
              cases e1
              obtain ⟨us, h3, h4⟩ := ro
              exact ⟨_, us, rfl, .of h3, h4⟩
            | _ => cases e1
          | _ => cases e1
        obtain ⟨a, us, ea, hq, r2⟩ := lst
        exact ⟨a, us, by rw [ea], .inl ⟨hq, fun l o hl hd => new_tup S r2 q hl hd⟩⟩
    · cases h
  · cases h
theorem z_tuple (c : Cz G bs k X N nm ow) (ha : ZA X [e] fs) (hb : bOk bs nm "tuple" = true := by decide +kernel) (he : starEach [e] X.env = (false, eval e X.env) :: starEach [] X.env := by rfl) : ZE X (.Call (.Name "tuple" p) [e] [] pos) (fCall gTuple fs) :=
  z_callTy c call_tupleZ cz_tuple ha (by decide +kernel) hb (by decide +kernel) (by decide +kernel) he rfl
/-- list(..) -/
def gList (xs : List Dv) (s : Sto) : Rs (List Dv) := match xs with
  | [x] => match seqOf s x with | some ds => .ok ds s | none => .bad
  | _ => .bad
theorem cz_list {K : PySem.W.Frag} : CallLZ K (fun xs H Q => ∃ p ys, xs = [.ref p] ∧ (SqL K H p ys ∨ SqT K H p ys) ∧ ∀ l, H l = none → Q (.ref l) (upd H l (.lst ys))) gList := by
  intro B H s xs vs d s' Q S r h q
  unfold gList at h
  split at h
  · split at h
    · rename_i e1
      cases h
      cases r with
      | cons r1 rr =>
        cases rr
        obtain ⟨a, us, rfl, hq, r2⟩ := seq_of S r1 e1
        exact ⟨a, us, rfl, hq, fun l hl => new_lst S r2 hl q⟩
    · cases h
  · cases h
theorem z_list (c : Cz G bs k X N nm ow) (ha : ZA X [e] fs) (hb : bOk bs nm "list" = true := by decide +kernel) (he : starEach [e] X.env = (false, eval e X.env) :: starEach [] X.env := by rfl) : ZL X (.Call (.Name "list" p) [e] [] pos) (fCallL gList fs) :=
  z_callTyL c call_list_of cz_list ha (by decide +kernel) hb (by decide +kernel) (by decide +kernel) he rfl
end
end Z

namespace Z
open PySem PySem.Spec PyProof.Rows L2

/-! ### methods of lists and tuples -/
def MtZ (K : PySem.W.Frag) (r : V → List V → Hp → VK → Prop) (g : Dv → List Dv → Sto → Rs Dv) : Prop :=
  ∀ (B : Lo) (H : Hp) (s : Sto) (x : Dv) (xs : List Dv) (v : V) (vs : List V) (d : Dv) (s' : Sto) (Q : VK), Sim K B H s → Rp K B H x v → Rps K B H xs vs → g x xs s = .ok d s' → PostZ K B H s' d Q → r v vs H Q
/-- x is of that kind -/
def isL (x : Dv) (s : Sto) : Bool := match x with
  | .ls _ => true
  | .loc n => match s[n]? with | some (.lst _) => true | _ => false
  | _ => false
def isT (x : Dv) (_ : Sto) : Bool := match x with | .tup _ => true | _ => false
def isD (x : Dv) (s : Sto) : Bool := match x with
  | .loc n => match s[n]? with | some (.dk _) => true | some (.dt _) => true | _ => false
  | _ => false
def isS (x : Dv) (_ : Sto) : Bool := match x with | .str _ => true | _ => false
def fMt (ty : Dv → Sto → Bool) (g : Dv → List Dv → Sto → Rs Dv) (fo : Fn Dv) (fs : Fn (List Dv)) : Fn Dv := fun env s => (fo env s).bind fun x s1 => Rs.iff (ty x s1) ((fs env s1).bind fun xs s2 => g x xs s2)
def TyZ (K : PySem.W.Frag) (ty : Dv → Sto → Bool) (R : V → Hp → Prop) : Prop := ∀ (B : Lo) (H : Hp) (s : Sto) (x : Dv) (v : V), Sim K B H s → Rp K B H x v → ty x s = true → R v H
theorem ty_l {K : PySem.W.Frag} : TyZ K isL (tyV K "list") := by
  intro B H s x v S r h
  cases r with
  | ls h1 h2 => exact .inl ⟨rfl, _, h1.sq⟩
  | loc h1 =>
    obtain ⟨o, ho, ro⟩ := S.at h1
    simp only [isL, ho] at h
    cases o with
    | lst ds => obtain ⟨xs, h3, _⟩ := ro; exact .inl ⟨rfl, xs, .of h3⟩
    | _ => cases h
  | _ => cases h
/-- a tuple with a plain head -/
def tyT (K : PySem.W.Frag) (v : V) (H : Hp) : Prop := ∃ a xs, v = .ref a ∧ Tk K H a xs
theorem ty_t {K : PySem.W.Frag} : TyZ K isT (tyT K) := by
  intro B H s x v S r h
  cases r with
  | tup h1 h2 => exact ⟨_, _, rfl, h1⟩
  | _ => cases h
def tMt (K : PySem.W.Frag) (R : V → Hp → Prop) (r : V → List V → Hp → VK → Prop) (to : TE) (t : TA) : TE := fun σ H Q => to σ H fun x H1 => R x H1 ∧ t σ H1 fun xs H2 => r x xs H2 Q
section
variable {G : Gz} {bs : List Str} {k : Nat} {X : Cx} {N : List Str} {nm : List (Str × NameKind)} {ow : Str → Bool} {a b e o i v : Expr} {es : List Expr} {fa fb fc fo fi fv : Fn Dv} {fs : Fn (List Dv)} {pos p apos cpos : Pos} {x name : Str} {id : String} {r : V → List V → Hp → VK → Prop} {g : Dv → List Dv → Sto → Rs Dv}
theorem mt_to {ty : Dv → Sto → Bool} {R : V → Hp → Prop} (ht : TyZ X.K ty R) (hg : MtZ X.K r g) : ∀ σ H Q, tOf X.K (fMt ty g fo fs) σ H Q → tMt X.K R r (tOf X.K fo) (tOfA X.K fs) σ H Q := fun σ H Q q => by
  obtain ⟨B, env, s, d, s', hE, hS, hf, hQ⟩ := q
  obtain ⟨x, s1, h1, hf⟩ := Rs.bind_ok hf
  obtain ⟨hc, hf⟩ := Rs.iff_ok hf
  obtain ⟨xs, s2, h2, hf⟩ := Rs.bind_ok hf
  refine ⟨B, env, s, _, _, hE, hS, h1, fun B1 H1 v x1 e1 S1 r1 => ⟨ht B1 H1 s1 x v S1 r1 hc, ?_⟩⟩
  refine ⟨B1, env, s1, _, _, hE.mono x1.mo, S1, h2, fun B2 H2 vs x2 e2 S2 r2 => ?_⟩
  exact hg B2 H2 s2 x xs v vs d s' Q S2 (r1.mono x2.mo) r2 hf fun B3 H3 u x3 e3 S3 r3 => hQ B3 H3 u (x1.trans (x2.trans x3)) (e3.trans (e2.trans e1)) S3 r3
/-- a method of a tuple, asked by places -/
theorem pe_mtT {to : TE} {t : TA} (slot : Slot "tuple" name id) (pa : PlainAttrs "tuple") (hty : typeOf (.builtin id) = pure (.type "method_descriptor")) (hm : MtR X id r) (ho : PE X o to) (ha : PA X (e :: es) t)
    (hbase : attributeBase o name X.env (eval o X.env) = eval o X.env)
    (hfew : ((backTo cpos (starEach (e :: es) X.env)).all (fun x => !x.1) && (backToKw cpos (keywordEach [] X.env)).all (fun x => x.1.isSome)
      && decide ((e :: es).length + ([] : List Keyword).length + (if ([] : List Keyword).isEmpty then 0 else 1) < 30)) = true)
    (hline : (apos.endLine == cpos.line) = true) (hs : starEach (e :: es) X.env = (false, eval e X.env) :: starEach es X.env) (hplain : (backTo cpos (starEach es X.env)).any (·.1) = false) :
    PE X (.Call (.Attribute o name apos) (e :: es) [] cpos) (tMt X.K (tyT X.K) r to t) := by
  refine ⟨fun pins s σ H Q I h => ?_⟩
  refine wpAny_Call_method_late hbase hfew hline rfl (thn (ho.run pins s σ H _ I h) fun v s1 ⟨x, H1, I1, r1, ⟨at1, xs1, ev, tk⟩, q1⟩ => ?_)
  subst ev
  cases r1
  have hob : ∃ ob, s1.heap.get? at1 = some ob ∧ ob.cls = .type "tuple" ∧ ob.dict = none := by
    rcases tk with ⟨ob, h1, h2⟩ | ⟨ob, its, n, h1, h2, h3, _⟩
    · obtain ⟨h4, h5⟩ := I1.hok _ _ h1
      obtain ⟨_, _, _, ob', e1, e2, _⟩ := h5
      rw [h4] at e1; cases e1
      exact ⟨ob, h4, e2, h2⟩
    · exact ⟨ob, I1.kIn _ _ h1, h2, h3⟩
  obtain ⟨ob, g1, g2, g3⟩ := hob
  refine ⟨"tuple", id, pa, slot, hty, ⟨ob, g1, g2⟩, fun a e => ?_, ?_⟩
  · cases e
    exact ⟨ob, g1, g3⟩
  have hA := ha.run cpos pins s1 σ H1 _ I1 q1
  rw [hs] at hA ⊢
  refine Calls.callWith_builtin (by show (false || (backTo cpos (starEach es X.env)).any (·.1)) = false; rw [hplain] <;> rfl) (Calls.evalArgs_plain ?_)
  exact thn hA fun us s2 ⟨vs, H2, I2, r2, q2⟩ => hm pins s2 σ H2 (.ref at1) vs (.ref at1) us Q I2 rfl r2 q2

/-! append, extend, pop -/
def gAppend (x : Dv) (xs : List Dv) (s : Sto) : Rs Dv := match x, xs with
  | .loc n, [d] => match s[n]? with
    | some (.lst ds) => Rs.iff (decide (ds.length < 16777216)) (.ok .non (s.set n (.lst (ds ++ [d]))))
    | _ => .bad
  | _, _ => .bad
theorem loc_lst {K : PySem.W.Frag} {B : Lo} {H : Hp} {s : Sto} (S : Sim K B H s) {n : Nat} {v : V} {ds : List Dv} (r : Rp K B H (.loc n) v) (e : s[n]? = some (.lst ds)) : ∃ a xs, v = .ref a ∧ B.locs[n]? = some a ∧ H a = some (.lst xs) ∧ Rps K B H ds xs := by
  cases r with
  | loc h1 =>
    obtain ⟨o, ho, ro⟩ := S.at h1
    rw [e] at ho; cases ho
    obtain ⟨xs, h3, h4⟩ := ro
    exact ⟨_, xs, rfl, h1, h3, h4⟩
/-- the list at n is changed -/
theorem put_lst {K : PySem.W.Frag} {B : Lo} {H : Hp} {s : Sto} {d : Dv} {v : V} {Q : VK} {n : Nat} {a : Addr} {ds : List Dv} {xs : List V} (S : Sim K B H s) (h : B.locs[n]? = some a) (r : Rps K B H ds xs) (q : PostZ K B H (s.set n (.lst ds)) d Q) (hd : Rp K B H d v) : Q v (upd H a (.lst xs)) := by
  have x := Ext.write (o := .lst xs) S h
  exact q B _ v x rfl (S.write h ⟨xs, upd_same, r.mono x.mo⟩) (hd.mono x.mo)
theorem mz_append {K : PySem.W.Frag} : MtZ K rAppend gAppend := by
  intro B H s x xs v vs d s' Q S r rs h q
  unfold gAppend at h
  split at h
  · split at h
    · rename_i ds e1
      obtain ⟨hz, h⟩ := Rs.iff_ok h
      cases h
      obtain ⟨a, us, rfl, h1, h2, h3⟩ := loc_lst S r e1
      cases rs with
      | cons r1 rr =>
        cases rr
        refine ⟨a, us, _, rfl, rfl, h2, ?_, put_lst S h1 (h3.append (.cons r1 .nil)) q .non⟩
        rw [← h3.length, sizeLine_eq]; exact of_decide_eq_true hz
    · cases h
  · cases h
theorem z_append (ho : ZE X o fo) (ha : ZA X [e] fs) (hbase : attributeBase o "append" X.env (eval o X.env) = eval o X.env := by rfl) (hline : (apos.endLine == cpos.line) = true := by rfl) (hs : starEach [e] X.env = (false, eval e X.env) :: starEach [] X.env := by rfl) :
    ZE X (.Call (.Attribute o "append" apos) [e] [] cpos) (fMt isL gAppend fo fs) :=
  pe_mono (pe_bm PySem.F.plainAttrs_list PySem.F.slot_list_append PySem.F.type_list_append mt_append ho ha hbase (by rw [hs]; rfl) hline hs rfl) (mt_to ty_l mz_append)
def gExtend (x : Dv) (xs : List Dv) (s : Sto) : Rs Dv := match x, xs with
  | .loc n, [.ls es] => match s[n]? with
    | some (.lst ds) => Rs.iff (decide (ds.length + es.length ≤ 16777216)) (.ok .non (s.set n (.lst (ds ++ es))))
    | _ => .bad
  | _, _ => .bad
/-- extend by a list just made -/
def rExtendZ (K : PySem.W.Frag) : V → List V → Hp → VK → Prop := fun x vs H Q => ∃ l b xs zs, x = .ref l ∧ vs = [.ref b] ∧ H l = some (.lst xs) ∧ H b = some (.lst zs) ∧ xs.length + zs.length ≤ sizeLine ∧ Q .non (upd H l (.lst (xs ++ zs)))
def fExtend (fo : Fn Dv) (fl : Fn (List Dv)) : Fn Dv := fun env s => (fo env s).bind fun x s1 => Rs.iff (isL x s1) ((fl env s1).bind fun es s2 => gExtend x [.ls es] s2)
/-- pop(i) -/
def gPopAt (x : Dv) (xs : List Dv) (s : Sto) : Rs Dv := match x, xs with
  | .loc n, [.int i] => match s[n]? with
    | some (.lst ds) => match ixN ds.length i with
      | some j => match ds[j]? with | some d => Rs.iff (inRng i) (.ok d (s.set n (.lst (ds.eraseIdx j)))) | none => .bad
      | none => .bad
    | _ => .bad
  | _, _ => .bad
theorem mz_popAt {K : PySem.W.Frag} : MtZ K rPopAt gPopAt := by
  intro B H s x xs v vs d s' Q S r rs h q
  unfold gPopAt at h
  split at h
  · split at h
    · rename_i ds e1
      split at h
      · rename_i j e2
        split at h
        · rename_i d' e3
          obtain ⟨hz, h⟩ := Rs.iff_ok h
          cases h
          obtain ⟨a, us, rfl, h1, h2, h3⟩ := loc_lst S r e1
          obtain ⟨z1, z2⟩ := inRng_ok hz
          cases rs with
          | cons r1 rr =>
            cases r1; cases rr
            obtain ⟨u, h4, h5⟩ := h3.get e3
            rw [h3.length] at e2
            exact ⟨a, us, _, j, u, rfl, rfl, h2, by omega, by omega, (ixN_seq e2).1, h4, put_lst S h1 (h3.eraseIdx j) q h5⟩
        · cases h
      · cases h
    · cases h
  · cases h
theorem z_popAt (ho : ZE X o fo) (ha : ZA X [e] fs) (hbase : attributeBase o "pop" X.env (eval o X.env) = eval o X.env := by rfl) (hline : (apos.endLine == cpos.line) = true := by rfl) (hs : starEach [e] X.env = (false, eval e X.env) :: starEach [] X.env := by rfl) :
    ZE X (.Call (.Attribute o "pop" apos) [e] [] cpos) (fMt isL gPopAt fo fs) :=
  pe_mono (pe_bm PySem.F.plainAttrs_list PySem.F.slot_list_pop PySem.F.type_list_pop mt_popAt ho ha hbase (by rw [hs]; rfl) hline hs rfl) (mt_to ty_l mz_popAt)
/-- index -/
def idxV (v : V) (vs : List V) : Option Nat := vs.findIdx? fun u => eqV u v
theorem seqL_of {K : PySem.W.Frag} {B : Lo} {H : Hp} {s : Sto} (S : Sim K B H s) {d : Dv} {v : V} {ds : List Dv} (r : Rp K B H d v) (hl : isL d s = true) (h : seqOf s d = some ds) : ∃ a xs, v = .ref a ∧ SqL K H a xs ∧ Rps K B H ds xs := by
  cases r with
  | ls h1 h2 => cases h; exact ⟨_, _, rfl, h1.sq, h2⟩
  | loc h1 =>
    obtain ⟨o, ho, ro⟩ := S.at h1
    simp only [seqOf, ho] at h
    cases o with
    | lst es =>
      cases h
      obtain ⟨xs, e1, e2⟩ := ro
      exact ⟨_, xs, rfl, .of e1, e2⟩
    | _ => cases h
  | _ => cases hl
def gIndexL (x : Dv) (xs : List Dv) (s : Sto) : Rs Dv := match xs with
  | [y] => match fV y, (seqOf s x).bind (·.mapM fV) with
    | some v, some vs => match idxV v vs with | some j => Rs.iff (isL x s) (.ok (.int (j : Nat)) s) | none => .bad
    | _, _ => .bad
  | _ => .bad
def strsOf : List Dv → Option (List Str)
  | [] => some []
  | .str z :: r => (strsOf r).map (z :: ·)
  | _ => none
def gIndexT (x : Dv) (xs : List Dv) (s : Sto) : Rs Dv := match x, xs with
  | .tup ds, [.str z] => match strsOf ds with
    | some zs => match zs.findIdx? (· == z) with | some j => .ok (.int (j : Nat)) s | none => .bad
    | none => .bad
  | _, _ => .bad
/-- index of a list or of a tuple of texts -/
def fIndex (fo : Fn Dv) (fs : Fn (List Dv)) : Fn Dv := fun env s => (fo env s).bind fun x s1 => if isT x s1 = true then (fs env s1).bind fun xs s2 => gIndexT x xs s2 else Rs.iff (isL x s1) ((fs env s1).bind fun xs s2 => gIndexL x xs s2)
end
end Z

namespace Z
open PySem PySem.Spec PyProof.Rows L2

/-! ### o[i] = v -/
def putD {κ : Type} [DecidableEq κ] (kvs : List (κ × Dv)) (k : κ) (v : Dv) : List (κ × Dv) :=
  if (kvs.any fun kv => decide (kv.1 = k)) = true then kvs.map (fun kv => if kv.1 = k then (kv.1, v) else kv) else kvs ++ [(k, v)]
def keyD : Dv → Option Key
  | .int i => some (.inl i)
  | .str z => some (.inr z)
  | _ => none
def gPut (x y d : Dv) (s : Sto) : Rs Unit := match x with
  | .loc n => match s[n]? with
    | some (.lst ds) => match y with
      | .int i => match ixN ds.length i with | some j => .ok () (s.set n (.lst (ds.set j d))) | none => .bad
      | _ => .bad
    | some (.dk kvs) => match keyD y with | some k => Rs.iff (decide (kvs.length < 16777216)) (.ok () (s.set n (.dk (putD kvs k d)))) | none => .bad
    | _ => .bad
  | _ => .bad
theorem gPut_cases {x y d : Dv} {s s' : Sto} {u : Unit} (h : gPut x y d s = .ok u s') : ∃ n, x = .loc n ∧ ((∃ ds i j, s[n]? = some (.lst ds) ∧ y = .int i ∧ ixN ds.length i = some j ∧ s' = s.set n (.lst (ds.set j d))) ∨
    ∃ kvs k, s[n]? = some (.dk kvs) ∧ keyD y = some k ∧ kvs.length < 16777216 ∧ s' = s.set n (.dk (putD kvs k d))) := by
  cases x with
  | loc n =>
    refine ⟨n, rfl, ?_⟩
    unfold gPut at h
    simp only at h
    split at h
    · rename_i ds e
      split at h
      · split at h
        · rename_i j e2
          cases h
          exact .inl ⟨ds, _, j, e, rfl, e2, rfl⟩
        · cases h
      · cases h
    · rename_i kvs e
      split at h
      · rename_i k e2
        obtain ⟨hz, h⟩ := Rs.iff_ok h
        cases h
        exact .inr ⟨kvs, k, e, e2, of_decide_eq_true hz, rfl⟩
      · cases h
    · cases h
  | _ => cases h
theorem key_rp {K : PySem.W.Frag} {B : Lo} {H : Hp} {y : Dv} {w : V} {k : Key} (r : Rp K B H y w) (h : keyD y = some k) : w = kV k := by
  cases r with
  | int i => cases h; rfl
  | str i => cases h; rfl
  | _ => cases h
theorem any_rp {K : PySem.W.Frag} {B : Lo} {H : Hp} {κ : Type} [DecidableEq κ] {k : κ} : ∀ {kvs : List (κ × Dv)} {ks : List (κ × V)}, Paired (fun (p : κ × Dv) (q : κ × V) => p.1 = q.1 ∧ Rp K B H p.2 q.2) kvs ks →
    (kvs.any fun kv => decide (kv.1 = k)) = ks.any fun kv => decide (kv.1 = k)
  | _, _, .nil => rfl
  | _, _, .cons ⟨e, _⟩ t => by simp only [List.any_cons, e, any_rp t]
theorem map_rp {K : PySem.W.Frag} {B : Lo} {H : Hp} {κ : Type} [DecidableEq κ] {k : κ} {d : Dv} {v : V} (r : Rp K B H d v) : ∀ {kvs : List (κ × Dv)} {ks : List (κ × V)}, Paired (fun (p : κ × Dv) (q : κ × V) => p.1 = q.1 ∧ Rp K B H p.2 q.2) kvs ks →
    Paired (fun (p : κ × Dv) (q : κ × V) => p.1 = q.1 ∧ Rp K B H p.2 q.2) (kvs.map fun kv => if kv.1 = k then (kv.1, d) else kv) (ks.map fun kv => if kv.1 = k then (kv.1, v) else kv)
  | _, _, .nil => .nil
  | (k1, d1) :: _, (k2, v2) :: _, .cons ⟨e, q⟩ t => by
    have e : k1 = k2 := e
    subst e
    refine .cons ?_ (map_rp r t)
    by_cases h : k1 = k
    · dsimp only; rw [if_pos h, if_pos h]; exact ⟨rfl, r⟩
    · dsimp only; rw [if_neg h, if_neg h]; exact ⟨rfl, q⟩
theorem paired_snoc {α β : Type} {F : α → β → Prop} {a : α} {b : β} (r : F a b) : ∀ {l : List α} {m : List β}, Paired F l m → Paired F (l ++ [a]) (m ++ [b])
  | _, _, .nil => .cons r .nil
  | _, _, .cons h t => .cons h (paired_snoc r t)
theorem put_rp {K : PySem.W.Frag} {B : Lo} {H : Hp} {κ : Type} [DecidableEq κ] {k : κ} {d : Dv} {v : V} (r : Rp K B H d v) {kvs : List (κ × Dv)} {ks : List (κ × V)} (p : Paired (fun (p : κ × Dv) (q : κ × V) => p.1 = q.1 ∧ Rp K B H p.2 q.2) kvs ks) :
    Paired (fun (p : κ × Dv) (q : κ × V) => p.1 = q.1 ∧ Rp K B H p.2 q.2) (putD kvs k d) (putK ks k v) := by
  unfold putD putK
  rw [any_rp p]
  split
  · exact map_rp r p
  · exact paired_snoc ⟨rfl, r⟩ p
theorem paired_len {α β : Type} {F : α → β → Prop} : ∀ {l : List α} {m : List β}, Paired F l m → l.length = m.length
  | _, _, .nil => rfl
  | _, _, .cons _ t => congrArg (· + 1) (paired_len t)
section
variable {G : Gz} {bs : List Str} {k : Nat} {X : Cx} {N : List Str} {nm : List (Str × NameKind)} {ow : Str → Bool} {a b e o i v : Expr} {es : List Expr} {fa fb fc fo fi fv : Fn Dv} {fs : Fn (List Dv)} {pos p apos cpos tpos : Pos} {x y z name : Str}
def fPut (fo fi fv : Fn Dv) : Fn Ct := fun env s => (fv env s).bind fun d s1 => (fo env s1).bind fun x s2 => (fi env s2).bind fun y s3 => (gPut x y d s3).bind fun _ s4 => .ok (.next env) s4
/-- a thing of the store at n is changed -/
theorem put_any {K : PySem.W.Frag} {B : Lo} {H : Hp} {s : Sto} {n : Nat} {a : Addr} {u : Ob} {h : HO} {R : Hp → Prop} (S : Sim K B H s) (hl : B.locs[n]? = some a) (r : Ext B H B (upd H a h) → RpO K B (upd H a h) a u)
    (q : ∀ (B' : Lo) (H' : Hp), Ext B H B' H' → B'.hid = B.hid → Sim K B' H' (s.set n u) → R H') : R (upd H a h) := by
  have x := Ext.write (o := h) S hl
  exact q B _ x rfl (S.write hl (r x))
theorem z_put (c : Cz G bs k X N nm ow) (ho : ZE X o fo) (hi : ZE X i fi) (hv : ZE X v fv) (hs : swapsWith v (some (.Subscript o i tpos)) pos.line X.env = pure false := by rfl) (hsole : swapsWithSole [.Subscript o i tpos] v pos.line X.env = pure false := by rfl)
    (hsw : swappedStores [.Subscript o i tpos] v X.env = pure none := by rfl) (ha : ∀ u, assign (.Subscript o i tpos) X.env u = (do
      let ov ← holding [u] (eval o X.env)
      let iv ← holding [u, ov] (eval i X.env)
      standAt tpos
      holding [u, ov, iv] (setItem ov iv u)
      release [u, ov, iv] []) := by intro _; rfl) (h1 : (assignEach [.Subscript o i tpos] X.env).map (·.2) = [assign (.Subscript o i tpos) X.env] := by rfl) :
    ZS X (.Assign [.Subscript o i tpos] v pos) (fPut fo fi fv) := by
  refine ps_mono (ps_alt (ps_asg hv (pg_sub ho hi set_list ha) hsole hsw h1) (ps_dput (hu_of c.rm) ho hi hv hs)) fun D σ H q => ?_
  obtain ⟨B, env, s, ct, s', hE, hS, hf, hQ⟩ := q
  obtain ⟨d, s1, h1, hf⟩ := Rs.bind_ok hf
  obtain ⟨xo, s2, h2, hf⟩ := Rs.bind_ok hf
  obtain ⟨yi, s3, h3, hf⟩ := Rs.bind_ok hf
  obtain ⟨_, s4, h4, hf⟩ := Rs.bind_ok hf
  cases hf
  obtain ⟨n, rfl, hg⟩ := gPut_cases h4
  rcases hg with ⟨ds, ii, j, g1, rfl, g2, rfl⟩ | ⟨kvs, ky, g1, g2, g3, rfl⟩
  · left
    refine ⟨B, env, s, _, _, hE, hS, h1, fun B1 H1 v1 x1 e1 S1 r1 => ?_⟩
    refine ⟨B1, env, s1, _, _, hE.mono x1.mo, S1, h2, fun B2 H2 v2 x2 e2 S2 r2 => ?_⟩
    refine ⟨B2, env, s2, _, _, hE.mono (x1.trans x2).mo, S2, h3, fun B3 H3 v3 x3 e3 S3 r3 => ?_⟩
    obtain ⟨a, us, rfl, h5, h6, h7⟩ := loc_lst S3 (r2.mono x3.mo) g1
    cases r3
    refine ⟨a, us, _, j, rfl, rfl, h6, by rw [← h7.length]; exact g2, ?_⟩
    have xx := x1.trans (x2.trans x3)
    refine put_any (u := .lst (ds.set j d)) (R := fun H' => D.nx σ H') S3 h5 (fun x => ⟨_, upd_same, (h7.set j (r1.mono (x2.trans x3).mo)).mono x.mo⟩) fun B4 H4 x4 e4 S4 => ?_
    exact hQ B4 H4 σ (xx.trans x4) (e4.trans (e3.trans (e2.trans e1))) S4 (hE.mono (xx.trans x4).mo)
  · right
    refine ⟨B, env, s, _, _, hE, hS, h1, fun B1 H1 v1 x1 e1 S1 r1 => ?_⟩
    refine ⟨B1, env, s1, _, _, hE.mono x1.mo, S1, h2, fun B2 H2 v2 x2 e2 S2 r2 => ?_⟩
    refine ⟨B2, env, s2, _, _, hE.mono (x1.trans x2).mo, S2, h3, fun B3 H3 v3 x3 e3 S3 r3 => ?_⟩
    cases r2.mono x3.mo with
    | loc hl =>
      obtain ⟨o, ho, ro⟩ := S3.at hl
      rw [g1] at ho; cases ho
      obtain ⟨ks, h5, h6⟩ := ro
      rw [key_rp r3 g2]
      refine ⟨_, _, rfl, DPut.k h5 (by rw [← paired_len h6, sizeLine_eq]; exact g3), ?_⟩
      have xx := x1.trans (x2.trans x3)
      refine put_any (u := .dk (putD kvs ky d)) (R := fun H' => D.nx σ H') S3 hl (fun x => ⟨_, upd_same, Paired.mapP (put_rp (k := ky) (r1.mono (x2.trans x3).mo) h6) fun p q z => ⟨z.1, z.2.mono x.mo⟩⟩) fun B4 H4 x4 e4 S4 => ?_
      exact hQ B4 H4 σ (xx.trans x4) (e4.trans (e3.trans (e2.trans e1))) S4 (hE.mono (xx.trans x4).mo)

/-! ### o[i] += v -/
def gIxL (x y : Dv) (s : Sto) : Rs Dv := match x, y with
  | .loc n, .int i => match s[n]? with
    | some (.lst ds) => match atI ds i with | some d => .ok d s | none => .bad
    | _ => .bad
  | _, _ => .bad
def gPutL (x y d : Dv) (s : Sto) : Rs Unit := match x, y with
  | .loc n, .int i => match s[n]? with
    | some (.lst ds) => match ixN ds.length i with | some j => .ok () (s.set n (.lst (ds.set j d))) | none => .bad
    | _ => .bad
  | _, _ => .bad
def gIxD (x y : Dv) (s : Sto) : Rs Dv := match x, keyD y with
  | .loc n, some k => match s[n]? with
    | some (.dk kvs) => match lookK kvs k with | some d => .ok d s | none => .bad
    | _ => .bad
  | _, _ => .bad
def gPutK (x y d : Dv) (s : Sto) : Rs Unit := match x, keyD y with
  | .loc n, some k => match s[n]? with
    | some (.dk kvs) => Rs.iff (decide (kvs.length < 16777216)) (.ok () (s.set n (.dk (putD kvs k d))))
    | _ => .bad
  | _, _ => .bad
def augWay (gi : Dv → Dv → Sto → Rs Dv) (gp : Dv → Dv → Dv → Sto → Rs Unit) (g : Int → Int → Int) (fi fv : Fn Dv) (x : Dv) : Fn Ct := fun env s1 => (fi env s1).bind fun y s2 => (gi x y s2).bind fun old s3 => (fv env s3).bind fun d s4 => (gI (fun i j => .int (g i j)) old d s4).bind fun new s5 =>
  (gp x y new s5).bind fun _ s6 => .ok (.next env) s6
/-- xs[i] += n, of a list or a dict of the store -/
def fAug (g : Int → Int → Int) (fo fi fv : Fn Dv) : Fn Ct := fun env s => (fo env s).bind fun x s1 => if isL x s1 = true then augWay gIxL gPutL g fi fv x env s1 else augWay gIxD gPutK g fi fv x env s1
end
end Z

namespace Z
open PySem PySem.Spec PyProof.Rows L2

/-! ### how stores go, by the scope's names alone -/
def dE (nm : List (Str × NameKind)) : Env := { scope := scD nm, locals := 0, globals := 0, cells := [], qual := Str.empty, func := none, code := .none, frame := none, builtins := 0 }
section
variable {G : Gz} {bs : List Str} {k : Nat} {X : Cx} {N : List Str} {nm : List (Str × NameKind)} {ow : Str → Bool} {a b e o i v : Expr} {es : List Expr} {fa fb fc fo fi fv : Fn Dv} {fs : Fn (List Dv)} {pos p apos cpos tpos : Pos} {x y z name : Str}
theorem Cz.kO (c : Cz G bs k X N nm ow) : ∀ id, X.env.kindOf id = (dE nm).kindOf id := fun id => by show X.env.scope.names.lookup _ = nm.lookup _; rw [c.nm]
theorem Cz.bK (c : Cz G bs k X N nm ow) : X.env.blockKind = (dE nm).blockKind := by unfold Env.blockKind; rw [c.kd]; rfl
theorem Cz.sw (c : Cz G bs k X N nm ow) {targets : List Expr} {value : Expr} : swappedStores targets value X.env = swappedStores targets value (dE nm) := by
  unfold swappedStores
  simp only [c.kO, c.bK]
theorem Cz.sW (c : Cz G bs k X N nm ow) {t : Option Expr} {value : Expr} {l : Nat} : swapsWith value t l X.env = swapsWith value t l (dE nm) := by
  have h : (X.env.scope.kind == ScopeKind.class) = ((dE nm).scope.kind == ScopeKind.class) := by rw [c.kd]; rfl
  unfold swapsWith
  simp only [c.kO, c.bK, h]
/-- a, b = x, y, stored from the right -/
def fPar2 (i j : Nat) (f : Fn (List Dv)) : Fn Ct := fun env s => (f env s).bind fun ds s1 => match ds with | [d, e] => .ok (.next ((env.set i (some d)).set j (some e))) s1 | _ => .bad
theorem lcl (c : Cz G bs k X N nm ow) (h : (nm.lookup x == some .local) = true) : X.env.scope.names.lookup x = some .local := by rw [c.nm]; exact beq_iff_eq.mp h
theorem z_par2 {i j : Nat} {px py pt pt2 : Pos} {kt k2 : Nat} (c : Cz G bs k X N nm ow) (ha : ZA X [a, b] fs) (hi : decide (N[i]? = some x) = true) (hj : decide (N[j]? = some y) = true) (hij : i ≠ j) (hx : (nm.lookup x == some .local) = true) (hy : (nm.lookup y == some .local) = true)
    (hw : swappedStores [.Tuple [.Name x px, .Name y py] kt pt] (.Tuple [a, b] k2 pt2) (dE nm) = pure (some [x, y])) : ZS X (.Assign [.Tuple [.Name x px, .Name y py] kt pt] (.Tuple [a, b] k2 pt2) pos) (fPar2 i j fs) := by
  have nd : X.N.Nodup := by rw [c.hN]; exact c.nd
  refine ps_mono (ps_par c.calm nd (by rw [c.hN]; exact of_decide_eq_true hi) (by rw [c.hN]; exact of_decide_eq_true hj) hij (lcl c hx) (lcl c hy) ha (c.sw.trans hw)) fun D σ H q => ?_
  obtain ⟨B, env, s, ct, s', hE, hS, hf, hQ⟩ := q
  obtain ⟨ds, s1, h1, hf⟩ := Rs.bind_ok hf
  split at hf
  · cases hf
    refine ⟨B, env, s, _, _, hE, hS, h1, fun B1 H1 vs x1 e1 S1 r1 => ?_⟩
    cases r1 with
    | cons r rr =>
      cases rr with
      | cons r' rr =>
        cases rr
        exact ⟨_, _, rfl, hQ B1 H1 _ x1 e1 S1 (((hE.mono x1.mo).set i r).set j r')⟩
  · cases hf
def fPar3 (i j l : Nat) (f : Fn (List Dv)) : Fn Ct := fun env s => (f env s).bind fun ds s1 => match ds with | [d, e, h] => .ok (.next (((env.set i (some d)).set j (some e)).set l (some h))) s1 | _ => .bad
theorem z_par3 {e3 : Expr} {i j l : Nat} {px py pz pt pt2 : Pos} {kt k2 : Nat} (c : Cz G bs k X N nm ow) (ha : ZA X [a, b, e3] fs) (hi : decide (N[i]? = some x) = true) (hj : decide (N[j]? = some y) = true) (hl : decide (N[l]? = some z) = true) (hij : i ≠ j) (hil : i ≠ l) (hjl : j ≠ l)
    (hx : (nm.lookup x == some .local) = true) (hy : (nm.lookup y == some .local) = true) (hz : (nm.lookup z == some .local) = true)
    (hw : swappedStores [.Tuple [.Name x px, .Name y py, .Name z pz] kt pt] (.Tuple [a, b, e3] k2 pt2) (dE nm) = pure (some [x, y, z])) : ZS X (.Assign [.Tuple [.Name x px, .Name y py, .Name z pz] kt pt] (.Tuple [a, b, e3] k2 pt2) pos) (fPar3 i j l fs) := by
  have nd : X.N.Nodup := by rw [c.hN]; exact c.nd
  refine ps_mono (ps_par3 c.calm nd (by rw [c.hN]; exact of_decide_eq_true hi) (by rw [c.hN]; exact of_decide_eq_true hj) (by rw [c.hN]; exact of_decide_eq_true hl) hij hil hjl (lcl c hx) (lcl c hy) (lcl c hz) ha (c.sw.trans hw)) fun D σ H q => ?_
  obtain ⟨B, env, s, ct, s', hE, hS, hf, hQ⟩ := q
  obtain ⟨ds, s1, h1, hf⟩ := Rs.bind_ok hf
  split at hf
  · cases hf
    refine ⟨B, env, s, _, _, hE, hS, h1, fun B1 H1 vs x1 e1 S1 r1 => ?_⟩
    cases r1 with
    | cons r rr =>
      cases rr with
      | cons r' rr =>
        cases rr with
        | cons r3 rr =>
          cases rr
          exact ⟨_, _, _, rfl, hQ B1 H1 _ x1 e1 S1 ((((hE.mono x1.mo).set i r).set j r').set l r3)⟩
  · cases hf
/-! x = [..], x a local name on the comprehension's line -/
theorem val_to {K : PySem.W.Frag} {f : Fn (List Dv)} {te : TE} (h : ∀ σ H Q, tOfL K f σ H Q → te σ H Q) : ∀ σ H Q, tOf K (fVal f) σ H Q → te σ H Q := fun σ H Q q => by
  obtain ⟨B, env, s, d', s', hE, hS, hf, hQ⟩ := q
  obtain ⟨ds, s1, h1, hf⟩ := Rs.bind_ok hf
  cases hf
  refine h _ _ _ ⟨B, env, s, _, _, hE, hS, h1, fun B1 H1 p xs x1 e1 S1 hh hn hl r1 => ?_⟩
  exact hQ ⟨B1.locs, B1.hid⟩ H1 _ (x1.drop fun b hb => by rw [e1]; exact hb) e1 S1.back (.ls (.inl ⟨hl, (S1.hid p List.mem_cons_self).1, hh⟩) (r1.mono Mo.back))
variable {elt tg iter : Expr} {ifs : List Expr} {scope : Scope} {q : Bool} {fsr : Fn Src} {is : List Nat} {g : Dv → Fn En} {tt : Fn Bool} {te : Fn Dv}
theorem z_setLcW {spos py : Pos} {i : Nat} (c : Cz G bs k X N nm ow) (own : List (Str × Nat)) (hi : ZI X q tg iter fsr)
    (hin : ∀ X' : Cx, Cz G bs k X' N (relN nm scope.names) (ownN scope.names) → ZG X' q is tg g ∧ ZTs X' ifs tt ∧ ZE X' elt te) (wrap : Fn (List Dv) → Fn Dv) (hwr : ∀ {te' : TE}, (∀ σ H Q, tOfL X.K (fLc fsr (own.map (·.2)) g tt te) σ H Q → te' σ H Q) → ∀ σ H Q, tOf X.K (wrap (fLc fsr (own.map (·.2)) g tt te)) σ H Q → te' σ H Q)
    (hy : decide (N[i]? = some y) = true) (hyl : (nm.lookup y == some .local) = true) (hsw : swapsWith (.ListComp elt [⟨tg, iter, ifs, 0⟩] scope pos) (some (.Name y py)) spos.line (dE nm) = pure true)
    (ok : blkZ N nm scope own = true) (hk : scope.kind = .function) (his : is.all (fun i => (own.map (·.2)).contains i) = true) (hs : ∀ x, foldedSetIterable iter X.env x = pure x) :
    ZS X (.Assign [.Name y py] (.ListComp elt [⟨tg, iter, ifs, 0⟩] scope pos) spos) (fSet i (wrap (fLc fsr (own.map (·.2)) g tt te))) := by
  have nd : X.N.Nodup := by rw [c.hN]; exact c.nd
  have hcs := fun s H C cl fp => hin _ (c.blk hk s H C cl fp)
  refine ps_mono (ps_setLc (own := own) c.calm nd (by rw [c.hN]; exact of_decide_eq_true hy) (lcl c hyl) (c.sW.trans hsw) hi (c.blkOk ok) (fun s H C cl fp => (hcs s H C cl fp).1) (fun s H C cl fp => (hcs s H C cl fp).2.1) (fun s H C cl fp => (hcs s H C cl fp).2.2) hs) (set_to (hwr (lc_to fun i hi => ?_)))
  exact List.contains_iff_mem.mp (List.all_eq_true.mp his i hi)
theorem z_setLc {spos py : Pos} {i : Nat} (c : Cz G bs k X N nm ow) (own : List (Str × Nat)) (hi : ZI X q tg iter fsr)
    (hin : ∀ X' : Cx, Cz G bs k X' N (relN nm scope.names) (ownN scope.names) → ZG X' q is tg g ∧ ZTs X' ifs tt ∧ ZE X' elt te)
    (hy : decide (N[i]? = some y) = true := by decide +kernel) (hyl : (nm.lookup y == some .local) = true := by decide +kernel) (hsw : swapsWith (.ListComp elt [⟨tg, iter, ifs, 0⟩] scope pos) (some (.Name y py)) spos.line (dE nm) = pure true := by rfl)
    (ok : blkZ N nm scope own = true := by decide +kernel) (hk : scope.kind = .function := by rfl) (his : is.all (fun i => (own.map (·.2)).contains i) = true := by decide +kernel) (hs : ∀ x, foldedSetIterable iter X.env x = pure x := by intro _; rfl) :
    ZS X (.Assign [.Name y py] (.ListComp elt [⟨tg, iter, ifs, 0⟩] scope pos) spos) (fSet i (fVal (fLc fsr (own.map (·.2)) g tt te))) := z_setLcW c own hi hin fVal (fun h => val_to h) hy hyl hsw ok hk his hs
end
end Z

namespace Z
open PySem PySem.Spec PyProof.Rows L2

/-! ### {k: v, ..} -/
def fPairs : List (Fn Dv × Fn Dv) → Fn (List (Dv × Dv))
  | [], _, s => .ok [] s
  | (fk, fv) :: r, env, s => (fk env s).bind fun k s1 => (fv env s1).bind fun v s2 => (fPairs r env s2).bind fun ps s3 => .ok ((k, v) :: ps) s3
def keysD : List (Dv × Dv) → Option (List (Key × Dv))
  | [] => some []
  | (k, v) :: r => match keyD k, keysD r with | some k', some r' => some ((k', v) :: r') | _, _ => none
def mergeD (kvs more : List (Key × Dv)) : List (Key × Dv) := more.foldl (fun acc kv => putD acc kv.1 kv.2) kvs
def fDict (fs : List (Fn Dv × Fn Dv)) : Fn Dv := fun env s => (fPairs fs env s).bind fun ps s1 => match keysD ps with
  | some kvs => Rs.iff (decide (kvs.length ≤ 15)) (.ok (.loc s1.length) (s1 ++ [.dk (mergeD [] kvs)]))
  | none => .bad
section
variable {G : Gz} {bs : List Str} {k : Nat} {X : Cx} {N : List Str} {nm : List (Str × NameKind)} {ow : Str → Bool} {a b e o i v : Expr} {es : List Expr} {fa fb fc fo fi fv : Fn Dv} {fs : Fn (List Dv)} {pos p apos cpos tpos : Pos} {x y z name : Str}
abbrev ZPs (X : Cx) (pos : Pos) (ks : List (Option Expr)) (vs : List Expr) (fs : List (Fn Dv × Fn Dv)) : Prop := PPs X pos ks vs (fs.map fun p => (tOf X.K p.1, tOf X.K p.2))
theorem zps_nil : ZPs X pos [] [] [] := pps_nil
theorem zps_cons {kk : Expr} {ks : List (Option Expr)} {vs : List Expr} {fr : List (Fn Dv × Fn Dv)} (hk : ZE X kk fa) (hv : ZE X v fv) (hr : ZPs X pos ks vs fr) : ZPs X pos (some kk :: ks) (v :: vs) ((fa, fv) :: fr) := pps_cons hk hv hr
abbrev RpPs (K : PySem.W.Frag) (B : Lo) (H : Hp) : List (Dv × Dv) → List (V × V) → Prop := Paired fun p q => Rp K B H p.1 q.1 ∧ Rp K B H p.2 q.2
theorem pairs_to {K : PySem.W.Frag} : ∀ {fs : List (Fn Dv × Fn Dv)} {σ : L2.St} {H : Hp} {B : Lo} {env : En} {s s' : Sto} {ps : List (Dv × Dv)} {Q : List (V × V) → Hp → Prop}, RpE K B H env σ → Sim K B H s → fPairs fs env s = .ok ps s' →
    (∀ (B' : Lo) (H' : Hp) (qs : List (V × V)), Ext B H B' H' → B'.hid = B.hid → Sim K B' H' s' → RpPs K B' H' ps qs → Q qs H') → tPairs (fs.map fun p => (tOf K p.1, tOf K p.2)) σ H Q
  | [], _, _, _, _, _, _, _, _, hE, hS, hf, hQ => by
    cases hf
    exact hQ _ _ [] (Ext.refl _ _) rfl hS .nil
  | (fk, fv) :: r, _, _, B, env, s, s', ps, Q, hE, hS, hf, hQ => by
    obtain ⟨kd, s1, h1, hf⟩ := Rs.bind_ok hf
    obtain ⟨vd, s2, h2, hf⟩ := Rs.bind_ok hf
    obtain ⟨rd, s3, h3, hf⟩ := Rs.bind_ok hf
    cases hf
    refine ⟨B, env, s, _, _, hE, hS, h1, fun B1 H1 v1 x1 e1 S1 r1 => ?_⟩
    refine ⟨B1, env, s1, _, _, hE.mono x1.mo, S1, h2, fun B2 H2 v2 x2 e2 S2 r2 => ?_⟩
    refine pairs_to (hE.mono (x1.trans x2).mo) S2 h3 fun B3 H3 qs x3 e3 S3 r3 => ?_
    exact hQ B3 H3 _ (x1.trans (x2.trans x3)) (e3.trans (e2.trans e1)) S3 (.cons ⟨r1.mono (x2.trans x3).mo, r2.mono x3.mo⟩ r3)
theorem keys_rp {K : PySem.W.Frag} {B : Lo} {H : Hp} : ∀ {ps : List (Dv × Dv)} {qs : List (V × V)} {kvs : List (Key × Dv)}, RpPs K B H ps qs → keysD ps = some kvs →
    ∃ ks : List (Key × V), qs = ks.map (fun kv => (kV kv.1, kv.2)) ∧ Paired (fun (p : Key × Dv) (q : Key × V) => p.1 = q.1 ∧ Rp K B H p.2 q.2) kvs ks
  | _, _, _, .nil, h => by cases h; exact ⟨[], rfl, .nil⟩
  | (d1, d2) :: _, (v1, v2) :: _, _, .cons ⟨r1, r2⟩ t, h => by
    unfold keysD at h
    split at h
    · rename_i k' r' e1 e2
      cases h
      obtain ⟨ks, rfl, h3⟩ := keys_rp t e2
      have hk : v1 = kV k' := key_rp (show Rp K B H d1 v1 from r1) e1
      subst hk
      exact ⟨(k', v2) :: ks, rfl, .cons ⟨rfl, r2⟩ h3⟩
    · cases h
theorem merge_rp {K : PySem.W.Frag} {B : Lo} {H : Hp} : ∀ {more : List (Key × Dv)} {ms : List (Key × V)} {kvs : List (Key × Dv)} {ks : List (Key × V)}, Paired (fun (p : Key × Dv) (q : Key × V) => p.1 = q.1 ∧ Rp K B H p.2 q.2) more ms →
    Paired (fun (p : Key × Dv) (q : Key × V) => p.1 = q.1 ∧ Rp K B H p.2 q.2) kvs ks → Paired (fun (p : Key × Dv) (q : Key × V) => p.1 = q.1 ∧ Rp K B H p.2 q.2) (mergeD kvs more) (mergeK ks ms)
  | _, _, _, _, .nil, h => h
  | (k1, d1) :: m, (k2, v2) :: m', kvs, ks, .cons ⟨e, r⟩ t, h => by
    have e : k1 = k2 := e
    subst e
    exact merge_rp (kvs := putD kvs k1 d1) (ks := putK ks k1 v2) t (put_rp r h)
theorem z_dict {keys : List (Option Expr)} {values : List Expr} {fr : List (Fn Dv × Fn Dv)} (h : ZPs X pos keys values fr) (hall : keys.all (·.isSome) = true := by rfl) (hl : keys.length = values.length := by rfl) (h0 : keys ≠ [] := by exact List.cons_ne_nil _ _) (h15 : keys.length ≤ 15 := by decide) :
    ZE X (.Dict keys values pos) (fDict fr) := by
  refine pe_mono (pe_disp h hall hl h0 h15) fun σ H Q q => ?_
  obtain ⟨B, env, s, d, s', hE, hS, hf, hQ⟩ := q
  obtain ⟨ps, s1, h1, hf⟩ := Rs.bind_ok hf
  split at hf
  · rename_i kvs e1
    obtain ⟨hz, hf⟩ := Rs.iff_ok hf
    cases hf
    intro p hp
    have a1 := Ext.aside (B := B) (o := .dK []) hp
    refine pairs_to (B := ⟨B.locs, p :: B.hid⟩) (hE.mono a1.mo) (hS.aside hp) h1 fun B1 H1 qs x1 ee S1 r1 => ?_
    obtain ⟨L1, h1⟩ := B1
    simp only at ee
    subst ee
    have hd : H1 p = some (.dK []) := x1.keepH p _ upd_same List.mem_cons_self
    refine ⟨hd, ?_⟩
    obtain ⟨ks, rfl, hks⟩ := keys_rp r1 e1
    refine ⟨ks, rfl, by rw [← paired_len hks]; exact of_decide_eq_true hz, ?_⟩
    have hm : p ∈ (⟨L1, p :: B.hid⟩ : Lo).hid := List.mem_cons_self
    have S2 := S1.rehid (o := .dK (mergeK [] ks)) hm
    have m2 := Mo.rehid (o := .dK (mergeK [] ks)) S1 hm
    have x2 := (a1.trans x1).rewrite (o := .dK (mergeK [] ks)) hp
    have hh : p ∉ B.hid := hS.freeH hp
    refine hQ ⟨L1 ++ [p], B.hid⟩ _ _ (x2.adopt hp fun _ h => h) rfl (Sim.adopt (B := ⟨L1, B.hid⟩) (o := .dk (mergeD [] kvs)) S2 hh ⟨_, upd_same, Paired.mapP (merge_rp hks .nil) fun p q z => ⟨z.1, z.2.mono m2⟩⟩) (.loc ?_)
    rw [← S2.len]
    show (L1 ++ [p])[L1.length]? = some p
    rw [List.getElem?_append_right (Nat.le_refl _)]
    simp
  · cases hf
def fDict0 : Fn Dv := fun _ s => .ok (.loc s.length) (s ++ [.dk []])
/-! ### sums, all, any, the greater -/
def intsOf : List Dv → Option (List Int)
  | [] => some []
  | .int z :: r => (intsOf r).map (z :: ·)
  | _ => none
def blsOf : List Dv → Option (List Bool)
  | [] => some []
  | .bl z :: r => (blsOf r).map (z :: ·)
  | _ => none
theorem bls_rp {K : PySem.W.Frag} {B : Lo} {H : Hp} : ∀ {ds : List Dv} {vs : List V} {zs : List Bool}, Rps K B H ds vs → blsOf ds = some zs → vs = zs.map V.bl
  | _, _, _, .nil, h => by cases h; rfl
  | _, _, _, .cons r rr, h => by
    cases r with
    | bl x =>
      obtain ⟨t, h1, rfl⟩ := Option.map_eq_some_iff.mp h
      rw [bls_rp rr h1]; rfl
    | _ => cases h
/-- of a list alone -/
def gOnL {α : Type} (f : List Dv → Option α) (g : α → Dv) (xs : List Dv) (s : Sto) : Rs Dv := match xs with
  | [x] => match (seqOf s x).bind f with | some a => Rs.iff (isL x s) (.ok (g a) s) | none => .bad
  | _ => .bad
theorem gOnL_ok {α : Type} {f : List Dv → Option α} {g : α → Dv} {xs : List Dv} {s s' : Sto} {d : Dv} (h : gOnL f g xs s = .ok d s') : ∃ x ds a, xs = [x] ∧ isL x s = true ∧ seqOf s x = some ds ∧ f ds = some a ∧ d = g a ∧ s' = s := by
  unfold gOnL at h
  split at h
  · split at h
    · rename_i e1
      obtain ⟨h1, h2⟩ := Rs.iff_ok h
      obtain ⟨ds, e2, e3⟩ := Option.bind_eq_some_iff.mp e1
      cases h2
      exact ⟨_, ds, _, rfl, h1, e2, e3, rfl, rfl⟩
    · cases h
  · cases h
def gSumL := gOnL intsOf fun ns => Dv.int ns.sum
def gAll := gOnL blsOf fun b => Dv.bl (b.all id)
def gAny := gOnL blsOf fun b => Dv.bl (b.any id)
theorem cz_all {K : PySem.W.Frag} : CallZ K (rAll K) gAll := by
  intro B H s xs vs d s' Q S r h q
  obtain ⟨x, ds, ns, rfl, h1, h2, h3, rfl, rfl⟩ := gOnL_ok h
  cases r with
  | cons r1 rr =>
    cases rr
    obtain ⟨a, us, rfl, hq, r2⟩ := seqL_of S r1 h1 h2
    have := bls_rp r2 h3
    subst this
    exact ⟨a, ns, rfl, hq, q.same S (.bl _)⟩
theorem z_all (c : Cz G bs k X N nm ow) (ha : ZA X [e] fs) (hb : bOk bs nm "all" = true := by decide +kernel) (he : starEach [e] X.env = (false, eval e X.env) :: starEach [] X.env := by rfl) : ZE X (.Call (.Name "all" p) [e] [] pos) (fCall gAll fs) :=
  z_callB c (cr_all c.calm) cz_all ha (by decide +kernel) hb (by decide +kernel) (by decide +kernel) he rfl
def gTwo (g : Int → Int → Int) (xs : List Dv) (s : Sto) : Rs Dv := match xs with | [.int i, .int j] => .ok (.int (g i j)) s | _ => .bad
/-! ### repr -/
def gRepr (xs : List Dv) (s : Sto) : Rs Dv := match xs with
  | [x] => match pyOf s x with
    | some p => Rs.iff (p.showable && decide (p.shown.length ≤ 16777216)) (.ok (.str p.shown) s)
    | none => .bad
  | _ => .bad
mutual
theorem py_noDict {s : Sto} : ∀ (k : Nat) (d : Dv) (p : PyData), py s k d = some p → p.hasDict = false ∧ p.depth ≤ k
  | 0, _, _, h => by cases h
  | k + 1, d, p, h => by
    have seq : ∀ {ds : List Dv} {ps : List PyData}, ds.mapM (py s k) = some ps → PyData.hasDictAll ps = false ∧ PyData.depthAll ps ≤ k := fun {ds ps} e => pys_noDict k ds ps e
    cases d with
    | non => cases h; exact ⟨rfl, Nat.zero_le _⟩
    | bl b => cases h; exact ⟨rfl, Nat.zero_le _⟩
    | int b => cases h; exact ⟨rfl, Nat.zero_le _⟩
    | str b => cases h; exact ⟨rfl, Nat.zero_le _⟩
    | xn => cases h
    | tup ds =>
      obtain ⟨ps, h3, rfl⟩ := Option.map_eq_some_iff.mp h
      obtain ⟨a1, a2⟩ := seq h3
      exact ⟨by simpa [PyData.hasDict] using a1, by simp only [PyData.depth]; omega⟩
    | ls ds =>
      obtain ⟨ps, h3, rfl⟩ := Option.map_eq_some_iff.mp h
      obtain ⟨a1, a2⟩ := seq h3
      exact ⟨by simpa [PyData.hasDict] using a1, by simp only [PyData.depth]; omega⟩
    | loc n =>
      have h' : (match s[n]? with | some (.lst ds) => (ds.mapM (py s k)).map .list | _ => none) = some p := h
      split at h'
      · obtain ⟨ps, h3, rfl⟩ := Option.map_eq_some_iff.mp h'
        obtain ⟨a1, a2⟩ := seq h3
        exact ⟨by simpa [PyData.hasDict] using a1, by simp only [PyData.depth]; omega⟩
      · cases h'
theorem pys_noDict {s : Sto} (k : Nat) : ∀ (ds : List Dv) (ps : List PyData), ds.mapM (py s k) = some ps → PyData.hasDictAll ps = false ∧ PyData.depthAll ps ≤ k
  | [], ps, h => by simp at h; subst h; exact ⟨rfl, Nat.zero_le _⟩
  | d :: ds, ps, h => by
    obtain ⟨y, r, h1, h2, rfl⟩ := mapM_cons_some h
    obtain ⟨a1, a2⟩ := py_noDict k d y h1
    obtain ⟨b1, b2⟩ := pys_noDict k ds r h2
    exact ⟨by simp [PyData.hasDictAll, a1, b1], by simp only [PyData.depthAll]; omega⟩
end
def rRepr (K : PySem.W.Frag) : List V → Hp → VK → Prop := fun xs H Q => ∃ x p, xs = [x] ∧ Dp K H x p ∧ p.showable = true ∧ p.hasDict = false ∧ p.depth ≤ 40 ∧ p.shown.length ≤ sizeLine ∧ Q (.str p.shown) H
theorem call_repr (c : Cz G bs k X N nm ow) : CallR X (.builtin "repr") (rRepr X.K) := by
  intro pins s σ H xs us Q I r h
  obtain ⟨x, p, rfl, hd, hs, hn, hdp, hz, q⟩ := h
  obtain ⟨u, rfl, rx⟩ := Vals.one r
  cases hd with
  | non => cases rx; exact PySem.P.repr_of_none ⟨.str _, H, I.tok _, ⟨_, rfl⟩, q⟩
  | bl b => cases rx; exact PySem.P.repr_of_bool ⟨.str _, H, I.tok _, ⟨_, rfl⟩, q⟩
  | int i =>
    obtain ⟨t, rfl⟩ := rx
    exact PySem.P.repr_of_int (by simpa [PyData.showable] using hs) ⟨.str _, H, I.tok _, ⟨_, rfl⟩, q⟩
  | str z =>
    obtain ⟨t, rfl⟩ := rx
    exact PySem.P.repr_of_str ⟨.str _, H, I.tok _, ⟨_, rfl⟩, q⟩ hz
  | lst h1 h2 =>
    cases rx
    obtain ⟨as, hr⟩ := Dp.reads I _ _ _ (.lst h1 h2) rfl
    exact repr_of_reads' hr hs (PyData.noDict_hsm hn) c.gd (by have := c.un; omega) (fun _ _ e => e) (fun h' u tk kk => ⟨.str _, H, I.kept (t' := tk) kk, ⟨_, rfl⟩, q⟩) hz
  | tup h1 h2 =>
    cases rx
    obtain ⟨as, hr⟩ := Dp.reads I _ _ _ (.tup h1 h2) rfl
    exact repr_of_reads' hr hs (PyData.noDict_hsm hn) c.gd (by have := c.un; omega) (fun _ _ e => e) (fun h' u tk kk => ⟨.str _, H, I.kept (t' := tk) kk, ⟨_, rfl⟩, q⟩) hz
theorem cz_repr {K : PySem.W.Frag} : CallZ K (rRepr K) gRepr := by
  intro B H s xs vs d s' Q S r h q
  unfold gRepr at h
  split at h
  · split at h
    · rename_i p e1
      obtain ⟨h1, h2⟩ := Rs.iff_ok h
      rw [Bool.and_eq_true] at h1
      cases h2
      cases r with
      | cons r1 rr =>
        cases rr
        obtain ⟨n1, n2⟩ := py_noDict _ _ _ e1
        exact ⟨_, p, rfl, dp_of S _ _ _ _ r1 e1, h1.1, n1, n2, len_line (of_decide_eq_true h1.2), q.same S (.str _)⟩
    · cases h
  · cases h
theorem z_repr (c : Cz G bs k X N nm ow) (ha : ZA X [e] fs) (hb : bOk bs nm "repr" = true := by decide +kernel) (he : starEach [e] X.env = (false, eval e X.env) :: starEach [] X.env := by rfl) : ZE X (.Call (.Name "repr" p) [e] [] pos) (fCall gRepr fs) :=
  z_callB c (call_repr c) cz_repr ha (by decide +kernel) hb (by decide +kernel) (by decide +kernel) he rfl
end
end Z

namespace Z
open PySem PySem.Spec PyProof.Rows L2

/-! ### sorted(xs), xs a list or a tuple -/
section
variable {prog : Program} {w : World} {A : Around} {E : Value → Shared → Prop} {s : Shared}
theorem sorted_seqZ {it : Addr} {T : String} {o : Obj} {items : Array Value} {n : Nat} {kw : List (Str × Value)} {Q : Value → Shared → Prop} (hT : T = "list" ∨ T = "tuple") (ho : s.heap.get? it = some o) (hc : o.cls = .type T) (hd : o.data = .seq items n) (hsz : items.size ≤ sizeLine)
    (ha1 : argsOk "sorted" ⟨[.ref it], kw⟩)
    (body : ∀ (h' : Heap) (E' : Value → Shared → Prop), (∀ b o', s.heap.get? b = some o' → h'.get? b = some o') →
      wpAny (model prog w) A.in1 (call (.builtin "list.sort") [.ref h'.objs.size] kw) (fun v s' => Q (.ref h'.objs.size) s') E' { s with heap := h'.push (seqObj "list" items.toList.toArray 0) }) :
    wpAny (model prog w) A (call (.builtin "sorted") [.ref it] kw) Q E s := by
  refine call_function_entry_kw kind_sorted plain_sorted entry_sorted ha1 ?_
  unfold Builtin.«sorted»
  refine wpAny_bind (m := checkCount "sorted" 1 1 _) (wpAny_pure ?_)
  refine wpAny_bind (PySem.wpAny_collect_seq it hT ho hc hd (fun h' k => ?_) hsz)
  refine wpAny_bind (PySem.wpAny_newList ?_ (by rw [Array.length_toList]; exact hsz))
  refine wpAny_bind (wpAny_holding ?_)
  refine wpAny_mono (body h' _ k) (fun v s' hq => ?_) fun _ _ e => e
  exact wpAny_pure ⟨_, rfl, hq⟩
end

theorem vals_each {us : List V} {its : List Value} {ps : List PyData} (r : Vals us its) : us.length = ps.length → PySem.W.EachIs (fun v (b : V × PyData) => RelV b.1 v) its (us.zip ps) := by
  induction r generalizing ps with
  | nil => intro _; cases ps <;> exact .nil
  | cons h t ih =>
    intro hl
    cases ps with
    | nil => simp at hl
    | cons p ps => exact .cons h (ih (by simpa using hl))
theorem each_vals : ∀ {bs : List (V × PyData)} {its : List Value}, PySem.W.EachIs (fun v (b : V × PyData) => RelV b.1 v) its bs → Vals (bs.map (·.1)) its
  | _, _, .nil => .nil
  | _, _, .cons h t => .cons h (each_vals t)
def rSortedZ (K : PySem.W.Frag) : List V → Hp → VK → Prop := fun xs H Q => ∃ a us ps, xs = [.ref a] ∧ (SqL K H a us ∨ SqT K H a us) ∧ DpAll K H us ps ∧ PySem.W.AllAlike ps ∧ PySem.W.Sortable ps ∧ (∀ p ∈ ps, p.depth ≤ 40) ∧
  ∀ p, H p = none → Q (.ref p) (upd H p (.lst (((us.zip ps).mergeSort (PySem.W.dataLe false (·.2))).map (·.1))))
theorem dpAll_len {K : PySem.W.Frag} {H : Hp} : ∀ {us : List V} {ps : List PyData}, DpAll K H us ps → us.length = ps.length
  | _, _, .nil => rfl
  | _, _, .cons _ t => congrArg (· + 1) (dpAll_len t)
section
variable {G : Gz} {bs : List Str} {k : Nat} {X : Cx} {N : List Str} {nm : List (Str × NameKind)} {ow : Str → Bool} {a b e : Expr} {es : List Expr} {fa fb : Fn Dv} {fs : Fn (List Dv)} {pos p : Pos}
theorem dpAll_reads {pins : List (Addr × Obj)} {σ : L2.St} {H : Hp} {s : Shared} (I : Inv X pins σ H s) {h' : Heap} (kp : ∀ b o, s.heap.get? b = some o → h'.get? b = some o) {a : Addr} (ha : s.heap.get? a = none) : ∀ {us : List V} {ps : List PyData} {its : List Value}, DpAll X.K H us ps → Vals us its →
    PySem.W.EachIs (fun v (b : V × PyData) => ∃ as, Reads h' v b.2 as ∧ a ∉ as) its (us.zip ps)
  | _, _, _, .nil, .nil => .nil
  | _, _, _, .cons d t, .cons r q => by
    obtain ⟨as, h⟩ := Dp.reads I _ _ _ d r
    refine .cons ⟨as, Reads.keeps kp h, fun hm => ?_⟩ (dpAll_reads I kp ha t q)
    obtain ⟨o, ho⟩ := PyProof.On.reads_mem_get h a hm
    rw [ha] at ho; cases ho
theorem zip_snd : ∀ {us : List V} {ps : List PyData}, us.length = ps.length → (us.zip ps).map (·.2) = ps
  | [], [], _ => rfl
  | _ :: us, _ :: ps, h => congrArg (_ :: ·) (zip_snd (us := us) (ps := ps) (by simpa using h))
theorem call_sortedZ (c : Cz G bs k X N nm ow) : CallR X (.builtin "sorted") (rSortedZ X.K) := by
  intro pins s σ H xs vs Q I r h
  obtain ⟨a, us, ps, rfl, hq, hd, hal, hk, hdp, q⟩ := h
  rw [Vals.ref1 r]
  have hlen := dpAll_len hd
  have key : ∃ (its : List Value) (T : String) (o : Obj) (n : Nat), Vals us its ∧ (T = "list" ∨ T = "tuple") ∧ s.heap.get? a = some o ∧ o.cls = .type T ∧ o.data = .seq its.toArray n ∧ us.length ≤ sizeLine := by
    rcases hq with hq | hq
    · obtain ⟨its, r, ⟨o, n, e1, e2, _, e3⟩, hz⟩ := I.list hq
      exact ⟨its, "list", o, n, r, .inl rfl, e1, e2, e3, hz⟩
    · obtain ⟨its, r, ⟨o, e1, e2, n, e3⟩, hz⟩ := I.tuple hq
      exact ⟨its, "tuple", o, n, r, .inr rfl, e1, e2, e3, hz⟩
  obtain ⟨its, T, o, n, rv, hT, ho, hc, hdt, hz⟩ := key
  have hzz : (us.zip ps).length ≤ sizeLine := by rw [List.length_zip, ← hlen, Nat.min_self]; exact hz
  refine sorted_seqZ hT ho hc hdt (by rw [List.size_toArray, ← rv.length]; exact hz) (args_sorted1 _) fun h' E' kp => ?_
  have I1 : Inv X pins σ H { s with heap := h' } := I.kept (t' := s.toks) kp
  have fresh : h'.get? h'.objs.size = none := Heap.get?_none_of_le (Nat.le_refl _)
  have k2 : ∀ b o, h'.get? b = some o → (h'.push (seqObj "list" its.toArray.toList.toArray 0)).get? b = some o := fun b o e => Heap.get?_push_of_some _ e
  have hnew : (h'.push (seqObj "list" its.toArray.toList.toArray 0)).get? h'.objs.size = some (seqObj "list" its.toArray.toList.toArray 0) := Heap.get?_push_size _ rfl
  have hmap : (us.zip ps).map (·.2) = ps := zip_snd hlen
  refine PySem.W.list_sort_data (bs := us.zip ps) (enc := (·.2)) (R := fun v (b : V × PyData) => RelV b.1 v) hnew (vals_each rv hlen) (dpAll_reads I1 k2 fresh hd rv) (by rw [hmap]; exact hal) (by rw [hmap]; exact hk) hzz (fun b hb => ?_) fun out ho2 eo => ?_
  · have h1 : b.2 ∈ ps := by rw [← hmap]; exact List.mem_map.mpr ⟨b, hb, rfl⟩
    have h2 := hdp _ h1
    have h3 := c.un
    show X.A.units + 1 + 1 + b.2.depth < cLine
    omega
  · obtain ⟨m, hm⟩ := sortedHeap_at (vs := its.toArray.toList) (out := out.toArray) hnew
    refine ⟨.ref h'.objs.size, _, I1.laid (t' := s.toks) (a := h'.objs.size) (o := .lst (((us.zip ps).mergeSort (PySem.W.dataLe false (·.2))).map (·.1))) (fun b o e => ?_) (Nat.le_refl _) ?_, rfl, q _ I1.fresh⟩
    · have hlt := Heap.lt_size e
      exact (sortedHeap_old (Nat.ne_of_lt hlt) (Heap.lt_size (k2 b o e))).trans (k2 b o e)
    · refine ⟨?_, out, m, each_vals eo, hm⟩
      rw [List.length_map, List.length_mergeSort]; exact hzz
/-- the sorted items -/
def sortD (ds : List Dv) (ps : List PyData) : List Dv := ((ds.zip ps).mergeSort (PySem.W.dataLe false (·.2))).map (·.1)
def alikeB (ps : List PyData) : Bool := ps.all fun d => ps.all fun d' => PySem.W.alike d d'
def sortB (ps : List PyData) : Bool := ps.all (fun d => match d with | .tuple (_ :: _) => true | _ => false) || ps.all (fun d => match d with | .none => false | .tuple _ => false | _ => true)
theorem alikeB_ok {ps : List PyData} (h : alikeB ps = true) : PySem.W.AllAlike ps := fun d hd d' hd' => List.all_eq_true.mp (List.all_eq_true.mp h d hd) d' hd'
theorem sortB_ok {ps : List PyData} (h : sortB ps = true) : PySem.W.Sortable ps := by
  rcases Bool.or_eq_true _ _ ▸ h with h | h
  · refine .inl fun d hd => ?_
    have := List.all_eq_true.mp h d hd
    split at this
    · exact ⟨_, _, rfl⟩
    · cases this
  · refine .inr fun d hd => ?_
    have := List.all_eq_true.mp h d hd
    split at this
    · cases this
    · cases this
    · rename_i h1 h2
      exact ⟨h1, h2⟩
def gSorted (xs : List Dv) (s : Sto) : Rs (List Dv) := match xs with
  | [x] => match seqOf s x with
    | some ds => match ds.mapM (pyOf s) with
      | some ps => Rs.iff (alikeB ps && sortB ps) (.ok (sortD ds ps) s)
      | none => .bad
    | none => .bad
  | _ => .bad
theorem dps_of {K : PySem.W.Frag} {B : Lo} {H : Hp} {s : Sto} (S : Sim K B H s) : ∀ {ds : List Dv} {vs : List V} {ps : List PyData}, Rps K B H ds vs → ds.mapM (pyOf s) = some ps → DpAll K H vs ps
  | _, _, _, .nil, h => by simp at h; subst h; exact .nil
  | _, _, _, .cons r rr, h => by
    obtain ⟨y, t, h1, h2, rfl⟩ := mapM_cons_some h
    exact .cons (dp_of S _ _ _ _ r h1) (dps_of S rr h2)
theorem sort_rp {K : PySem.W.Frag} {B : Lo} {H : Hp} {ds : List Dv} {vs : List V} {ps : List PyData} (r : Rps K B H ds vs) (hl : ds.length = ps.length) : Rps K B H (sortD ds ps) (((vs.zip ps).mergeSort (PySem.W.dataLe false (·.2))).map (·.1)) := by
  have tri : ∀ {ds : List Dv} {vs : List V} (ps : List PyData), Rps K B H ds vs → ds.length = ps.length → ∃ ts : List ((Dv × V) × PyData), (∀ t ∈ ts, Rp K B H t.1.1 t.1.2) ∧ ds.zip ps = ts.map (fun t => (t.1.1, t.2)) ∧ vs.zip ps = ts.map (fun t => (t.1.2, t.2)) := by
    intro ds vs ps r
    induction ps generalizing ds vs with
    | nil => intro _; exact ⟨[], by simp, by simp, by simp⟩
    | cons p ps ih =>
      intro hl
      cases r with
      | nil => simp at hl
      | @cons d v ds vs r rr =>
        obtain ⟨ts, h1, h2, h3⟩ := ih rr (by simpa using hl)
        refine ⟨((d, v), p) :: ts, ?_, by simp [h2], by simp [h3]⟩
        intro t ht
        rcases List.mem_cons.mp ht with z | z
        · subst z; exact r
        · exact h1 t z
  obtain ⟨ts, h1, h2, h3⟩ := tri ps r hl
  unfold sortD
  rw [h2, h3, ← List.map_mergeSort (r := fun x y => PySem.W.dataLe false (·.2) x y) (f := fun t : (Dv × V) × PyData => (t.1.1, t.2)) (fun _ _ _ _ => rfl), ← List.map_mergeSort (r := fun x y => PySem.W.dataLe false (·.2) x y) (f := fun t : (Dv × V) × PyData => (t.1.2, t.2)) (fun _ _ _ _ => rfl), List.map_map, List.map_map]
  have : ∀ {us : List ((Dv × V) × PyData)}, (∀ t ∈ us, Rp K B H t.1.1 t.1.2) → Rps K B H (us.map ((·.1) ∘ fun t : (Dv × V) × PyData => (t.1.1, t.2))) (us.map ((·.1) ∘ fun t : (Dv × V) × PyData => (t.1.2, t.2))) := by
    intro us
    induction us with
    | nil => intro _; exact .nil
    | cons t us ih => intro h; exact .cons (h t List.mem_cons_self) (ih fun x hx => h x (List.mem_cons_of_mem _ hx))
  exact this fun t ht => h1 t ((List.mergeSort_perm ts _).mem_iff.mp ht)
theorem mapM_len {α β : Type} {f : α → Option β} : ∀ {ds : List α} {ps : List β}, ds.mapM f = some ps → ds.length = ps.length
  | [], ps, h => by simp at h; subst h; rfl
  | d :: ds, ps, h => by
    obtain ⟨y, t, h1, h2, rfl⟩ := mapM_cons_some h
    exact congrArg (· + 1) (mapM_len h2)
theorem pys_depth {s : Sto} : ∀ {ds : List Dv} {ps : List PyData}, ds.mapM (pyOf s) = some ps → ∀ p ∈ ps, p.depth ≤ 40
  | [], ps, h, p, hp => by simp at h; subst h; cases hp
  | d :: ds, ps, h, p, hp => by
    obtain ⟨y, t, h1, h2, rfl⟩ := mapM_cons_some h
    rcases List.mem_cons.mp hp with z | z
    · subst z; exact (py_noDict 40 d _ h1).2
    · exact pys_depth h2 p z
theorem cz_sorted {K : PySem.W.Frag} : CallLZ K (rSortedZ K) gSorted := by
  intro B H s xs vs d s' Q S r h q
  unfold gSorted at h
  split at h
  · split at h
    · rename_i e1
      split at h
      · rename_i ps e2
        obtain ⟨h1, h2⟩ := Rs.iff_ok h
        rw [Bool.and_eq_true] at h1
        cases h2
        cases r with
        | cons r1 rr =>
          cases rr
          obtain ⟨a, us, rfl, hq, r2⟩ := seq_of S r1 e1
          refine ⟨a, us, ps, rfl, hq, dps_of S r2 e2, alikeB_ok h1.1, sortB_ok h1.2, fun p hp => ?_, fun l hl => new_lst S (sort_rp r2 (mapM_len e2)) hl q⟩
          exact pys_depth e2 p hp
      · cases h
    · cases h
  · cases h
theorem z_sorted (c : Cz G bs k X N nm ow) (ha : ZA X [e] fs) (hb : bOk bs nm "sorted" = true := by decide +kernel) (he : starEach [e] X.env = (false, eval e X.env) :: starEach [] X.env := by rfl) : ZL X (.Call (.Name "sorted" p) [e] [] pos) (fCallL gSorted fs) :=
  z_callBL c (call_sortedZ c) cz_sorted ha (by decide +kernel) hb (by decide +kernel) (by decide +kernel) he rfl

/-! ### xs[::-1] -/
def fRevL (f : Fn Dv) : Fn (List Dv) := fun env s => (f env s).bind fun x s1 => match seqOf s1 x with
  | some ds => Rs.iff (isL x s1) (.ok ds.reverse s1)
  | none => .bad
/-! ### list + list -/
def rCatL (K : PySem.W.Frag) : R2 := fun x y H Q => ∃ l b xs zs, x = .ref l ∧ y = .ref b ∧ SqL K H l xs ∧ SqL K H b zs ∧ xs.length + zs.length ≤ sizeLine ∧ ∀ p, H p = none → Q (.ref p) (upd H p (.lst (xs ++ zs)))
theorem op_catL : OpR X (binaryOp .Add) (rCatL X.K) := by
  intro pins s σ H x y v u Q I rx ry h
  obtain ⟨l, b, xs, zs, rfl, rfl, hH, hB, hz, q⟩ := h
  cases rx
  cases ry
  obtain ⟨its, r, p1, hl⟩ := I.list hH
  obtain ⟨its2, r2, p2, hl2⟩ := I.list hB
  obtain ⟨⟨cls, dd, data, sl⟩, ho, hc, n, hd⟩ := p1.isList
  obtain ⟨⟨cls2, dd2, data2, sl2⟩, ho2, hc2, n2, hd2⟩ := p2.isList
  simp only at hc hd hc2 hd2
  subst hc hd hc2 hd2
  have e : its.toArray ++ its2.toArray = (its ++ its2).toArray := by simp
  refine concat_meets ⟨_, ho, rfl⟩ ⟨_, ho2, rfl⟩ noFill_list_add seq_list_add PySem.F.slot_list_add PySem.F.entry_list_add (PySem.F.args_list_add_2 _ _) (list_addW l b its.toArray its2.toArray n n2 dd dd2 sl sl2 (by rw [List.size_toArray, List.size_toArray, ← r.length, ← r2.length]; exact hz)) ⟨ho, ho2, ?_⟩
  rw [e]
  exact ⟨.ref _, _, I.lnew (t' := s.toks) (r.append r2) (by rw [List.length_append]; omega), rfl, q _ I.fresh⟩
def fCatL (f g : Fn Dv) : Fn (List Dv) := fun env s => (f env s).bind fun x s1 => (g env s1).bind fun y s2 => match seqOf s2 x, seqOf s2 y with
  | some ds, some es => Rs.iff (isL x s2 && isL y s2 && decide (ds.length + es.length ≤ 16777216)) (.ok (ds ++ es) s2)
  | _, _ => .bad
theorem z_catL (ha : ZE X a fa) (hb : ZE X b fb) : ZL X (.BinOp a .Add b pos) (fCatL fa fb) := by
  refine pe_mono (pe_op op_catL ha hb) fun σ H Q q => ?_
  obtain ⟨B, env, s, d, s', hE, hS, hf, hQ⟩ := q
  obtain ⟨x, s1, h1, hf⟩ := Rs.bind_ok hf
  obtain ⟨y, s2, h2, hf⟩ := Rs.bind_ok hf
  split at hf
  · rename_i ds es e1 e2
    obtain ⟨hl, hf⟩ := Rs.iff_ok hf
    cases hf
    rw [Bool.and_eq_true, Bool.and_eq_true] at hl
    obtain ⟨⟨l1, l2⟩, l3⟩ := hl
    refine ⟨B, env, s, _, _, hE, hS, h1, fun B1 H1 v x1 e1' S1 r1 => ?_⟩
    refine ⟨B1, env, s1, _, _, hE.mono x1.mo, S1, h2, fun B2 H2 u x2 e2' S2 r2 => ?_⟩
    obtain ⟨a1, us, rfl, hq, q1⟩ := seqL_of S2 (r1.mono x2.mo) l1 e1
    obtain ⟨a2, ws, rfl, hq2, q2⟩ := seqL_of S2 r2 l2 e2
    refine ⟨a1, a2, us, ws, rfl, rfl, hq, hq2, by rw [← q1.length, ← q2.length]; exact len_line (of_decide_eq_true l3), fun p hp => ?_⟩
    exact new_lst S2 (q1.append q2) hp fun B3 H3 p xs x3 e3 S3 hh hn hl r3 => hQ B3 H3 p xs ((x1.trans x2).trans x3) (e3.trans (e2'.trans e1')) S3 hh (new_none (x1.trans x2) x3 S3 hn) hl r3
  · cases hf
end
end Z

namespace Z
open PySem PySem.Spec PyProof.Rows L2 PySem.W

/-! ### isinstance(x, T), T one of the common types -/
def isiB (t T : String) : Bool := t == T || (t == "bool" && T == "int")
/-- no error -/
def okX : Dv → Bool
  | .xn .. => false
  | _ => true
theorem Jt : okX .non = true := rfl
theorem Yz {b : Bool} : okX (.bl b) = true := rfl
theorem Ju {b : Int} : okX (.int b) = true := rfl
theorem Jv {b : Str} : okX (.str b) = true := rfl
theorem Jw {b : List Dv} : okX (.tup b) = true := rfl
theorem Y0 {b : List Dv} : okX (.ls b) = true := rfl
theorem Jx {n : Nat} : okX (.loc n) = true := rfl
def tyD (x : Dv) (s : Sto) : String := match x with
  | .non => "NoneType"
  | .bl _ => "bool"
  | .int _ => "int"
  | .str _ => "str"
  | .tup _ => "tuple"
  | .ls _ => "list"
  | .loc n => match s[n]? with | some (.lst _) => "list" | some (.dk _) => "dict" | some (.dt _) => "dict" | none => ""
  | .xn .. => ""
theorem kit_tab : ∀ t ∈ ["NoneType", "bool", "int", "str", "tuple", "list", "dict"], ∀ T ∈ ["bool", "int", "str", "tuple", "list", "dict"], kitB t T = some (isiB t T) := by decide +kernel
theorem ty_of {K : PySem.W.Frag} {B : Lo} {H : Hp} {s : Sto} (S : Sim K B H s) {d : Dv} {v : V} (r : Rp K B H d v) (hx : okX d = true) : TyX K H v (.type (tyD d s)) ∧ tyD d s ∈ ["NoneType", "bool", "int", "str", "tuple", "list", "dict"] := by
  cases r with
  | xn => cases hx
  | non => exact ⟨.base .non, by simp [tyD]⟩
  | bl b => exact ⟨.base (.bl b), by simp [tyD]⟩
  | int b => exact ⟨.base (.int b), by simp [tyD]⟩
  | str b => exact ⟨.base (.str b), by simp [tyD]⟩
  | tup h _ =>
    refine ⟨?_, by simp [tyD]⟩
    rcases h with ⟨o, h, _⟩ | ⟨o, its, n, h1, h2, _⟩
    · exact .fTuple h
    · exact .kTuple h1 h2
  | ls h _ =>
    refine ⟨?_, by simp [tyD]⟩
    rcases h with ⟨h, _⟩ | ⟨o, h⟩ | ⟨o, its, n, h1, h2, _⟩
    · exact .base (.lst h)
    · exact .base (.frz h)
    · exact .kList h1 h2
  | @loc n a h =>
    obtain ⟨o, ho, ro⟩ := S.at h
    unfold tyD
    simp only [ho]
    cases o with
    | lst ds => obtain ⟨xs, h1, _⟩ := ro; exact ⟨.base (.lst h1), by simp⟩
    | dk ds => obtain ⟨xs, h1, _⟩ := ro; exact ⟨.base (.dK h1), by simp⟩
    | dt ds => obtain ⟨xs, h1, _⟩ := ro; exact ⟨.base (.dT h1), by simp⟩
def fIsi (T : String) (f : Fn Dv) : Fn Dv := fun env s => (f env s).bind fun x s1 => Rs.iff (okX x) (.ok (.bl (isiB (tyD x s1) T)) s1)
section
variable {G : Gz} {bs : List Str} {k : Nat} {X : Cx} {N : List Str} {nm : List (Str × NameKind)} {ow : Str → Bool} {a b e tg : Expr} {fa fb fc : Fn Dv} {fs : Fn (List Dv)} {pos p tpos p2 : Pos} {x : Str} {q : Bool}
theorem z_isi (c : Cz G bs k X N nm ow) (T : String) (he : ZE X e fa) (hb : bOk bs nm "isinstance" = true := by decide +kernel) (hT : T ∈ ["bool", "int", "str", "tuple", "list", "dict"] := by decide) (hx : bOk bs nm x = true := by decide +kernel)
    (hv : bootBuiltins x = some (.type T) := by decide +kernel) (hn : x ≠ "__name__" := by decide +kernel) (hd : (x == ("__debug__" : Str)) = false := by decide +kernel)
    (h1 : starEach [e, .Name x p2] X.env = (false, eval e X.env) :: starEach [.Name x p2] X.env := by rfl) (h2 : starEach [.Name x p2] X.env = (false, eval (.Name x p2) X.env) :: starEach [] X.env := by rfl) (hpl : (backTo pos (starEach [.Name x p2] X.env)).any (·.1) = false := by rfl) :
    ZE X (.Call (.Name "isinstance" p) [e, .Name x p2] [] pos) (fIsi T fa) := by
  have ht : PE X (.Name x p2) (tC (.ty T)) := pe_bltn (c.blt hx).1 (c.blt hx).2 hv rfl hn hd
  refine pe_mono (pe_callB call_isi (c.blt hb).1 (c.blt hb).2 (by decide +kernel) (pa_cons he (pa_cons ht pa_nil h2) h1) (by decide +kernel) (by decide +kernel) h1 hpl) fun σ H Q h => ?_
  obtain ⟨B, env, s, d, s', hE, hS, hf, hQ⟩ := h
  obtain ⟨y, s1, g1, hf⟩ := Rs.bind_ok hf
  obtain ⟨hox, hf⟩ := Rs.iff_ok hf
  cases hf
  refine ⟨B, env, s, _, _, hE, hS, g1, fun B1 H1 v x1 e1 S1 r1 => ?_⟩
  obtain ⟨t1, t2⟩ := ty_of S1 r1 hox
  exact ⟨v, .ty T, _, .type T, _, rfl, .ty T, t1, kit_ty (kit_tab _ t2 _ hT), hQ B1 H1 _ x1 e1 S1 (.bl _)⟩

/-! ### for c in text -/
def charsD (z : Str) : List Dv := z.cps.toList.map fun c => .str ⟨#[c]⟩
def fSrcS (f : Fn Dv) : Fn Src := fun env s => (f env s).bind fun d s1 => match d with | .str z => .ok (charsD z, noChk) s1 | _ => .bad
theorem zi_str (he : ZE X e fa) : ZI X q tg e (fSrcS fa) := by
  refine pi_mono (pi_str (tg := tg) he) fun σ H R h => ?_
  obtain ⟨B, env, s, src, s', hE, hS, hf, hQ⟩ := h
  obtain ⟨d, s1, h1, hf⟩ := Rs.bind_ok hf
  cases d with
  | str z =>
    cases hf
    refine ⟨B, env, s, _, _, hE, hS, h1, fun B1 H1 v x1 e1 S1 r1 => ?_⟩
    cases r1
    refine ⟨z, rfl, hQ B1 H1 _ x1 e1 S1 fun B2 H2 s2 x2 S2 _ => ⟨fun i d e => ?_, ?_⟩⟩
    · have e' : z.cps.toList[i]?.map (fun c => Dv.str ⟨#[c]⟩) = some d := by rw [← List.getElem?_map]; exact e
      obtain ⟨c, e1, rfl⟩ := Option.map_eq_some_iff.mp e'
      have e3 : z.cps[i]? = some c := by rw [← Array.getElem?_toList]; exact e1
      have hl : i < z.cps.size := by have := (List.getElem?_eq_some_iff.mp e1).1; simpa using this
      refine ⟨hl, fun y H3 hy => ?_⟩
      obtain ⟨rfl, c', hc, rfl⟩ := hy
      rw [e3] at hc; cases hc
      exact ⟨Ext.refl _ _, S2, .of (.str _)⟩
    · show z.cps.size ≤ (charsD z).length
      simp [charsD]
  | _ => cases hf

/-! ### a module's constant -/
/-- the module's name x holds d -/
def GV (G : Gz) (x : Str) (d : Dv) : Prop := ∃ u, G.mg x = some u ∧ ∃ v, RelV v u ∧ ∀ (B : Lo) (H : Hp), Rp G.K B H d v
theorem GV.str {G : Gz} {x z : Str} {t : Tok} (h : G.mg x = some (.str z t)) : GV G x (.str z) := ⟨_, h, .str z, ⟨t, rfl⟩, fun _ _ => .str z⟩
theorem GV.int {G : Gz} {x : Str} {i : Int} {t : Tok} (h : G.mg x = some (.int i t)) : GV G x (.int i) := ⟨_, h, .int i, ⟨t, rfl⟩, fun _ _ => .int i⟩
theorem z_glob {d : Dv} (c : Cz G bs k X N nm ow) (hg : GV G x d) (h : gOk nm x = true := by decide +kernel) (hd : (x == ("__debug__" : Str)) = false := by decide +kernel) : ZE X (.Name x p) (fC d) := by
  obtain ⟨u, h1, v, h2, h3⟩ := hg
  exact z_const (pe_glob (c.gl h) (by rw [c.gm]; exact h1) h2 hd) fun B H => by rw [c.gK]; exact h3 B H
end

/-! ### enumerate(tuple) -/
set_option maxHeartbeats 1000000 in
/-- the tuple at a, each item in a new pair behind its place -/
def IteT (K : PySem.W.Frag) (a : Addr) : It :=
  ⟨fun i H => ∃ (xs : List V) (x : V), SqT K H a xs ∧ xs[i]? = some x, fun i H v H' => ∃ T x, v = .ref T ∧ H T = none ∧ H' = upd H T (.tup [.int (i : Nat), x]) ∧ ∀ xs, SqT K H a xs → xs[i]? = some x, fun i H => ∃ xs : List V, SqT K H a xs ∧ xs.length ≤ i⟩
def iEnumT (K : PySem.W.Frag) (ta : TA) : TI := fun σ H R => ta σ H fun vs H1 => ∃ a xs, vs = [.ref a] ∧ ((SqL K H1 a xs ∧ R (Ite K a) H1) ∨ (SqT K H1 a xs ∧ R (IteT K a) H1))
end Z

namespace Z
open PySem PySem.Spec PyProof.Rows L2

/-! ### enumerate, zip, reversed -/
def srcOf (d : Dv) (s : Sto) : Option Src := match d with
  | .tup ds => some (ds, noChk)
  | .ls ds => some (ds, noChk)
  | .loc n => match s[n]? with | some (.lst ds) => some (ds, isLst n ds) | _ => none
  | _ => none
def AtL (K : PySem.W.Frag) (B : Lo) (H : Hp) (a : Addr) (src : Src) : Prop := (∃ xs, SqL K H a xs ∧ Rps K B H src.1 xs) ∧ ∀ (B1 : Lo) (H1 : Hp) (s1 : Sto), Ext B H B1 H1 → Sim K B1 H1 s1 → src.2 s1 = true → ∃ xs, SqL K H1 a xs ∧ Rps K B1 H1 src.1 xs
def AtT (K : PySem.W.Frag) (B : Lo) (H : Hp) (a : Addr) (src : Src) : Prop := (∃ xs, SqT K H a xs ∧ Rps K B H src.1 xs) ∧ ∀ (B1 : Lo) (H1 : Hp) (s1 : Sto), Ext B H B1 H1 → Sim K B1 H1 s1 → src.2 s1 = true → ∃ xs, SqT K H1 a xs ∧ Rps K B1 H1 src.1 xs
def enumD (ds : List Dv) : List Dv := ds.mapIdx fun i d => .tup [.int (i : Nat), d]
def fEnum (f : Fn (List Dv)) : Fn Src := fun env s => (f env s).bind fun ds s1 => match ds with
  | [d] => match srcOf d s1 with | some src => .ok (enumD src.1, src.2) s1 | none => .bad
  | _ => .bad
def zipD (ds es : List Dv) : List Dv := List.zipWith (fun a b => .tup [a, b]) ds es
def fZip (f : Fn (List Dv)) : Fn Src := fun env s => (f env s).bind fun ds s1 => match ds with
  | [d, e] => match srcOf d s1, srcOf e s1 with
    | some a, some b => Rs.iff ((isL d s1 && isL e s1) || (isT d s1 && isT e s1)) (.ok (zipD a.1 b.1, fun s => a.2 s && b.2 s) s1)
    | _, _ => .bad
  | _ => .bad
def fRevI (f : Fn Dv) : Fn Src := fun env s => (f env s).bind fun d s1 => match srcOf d s1 with | some src => .ok (src.1.reverse, src.2) s1 | none => .bad
section
variable {G : Gz} {bs : List Str} {k : Nat} {X : Cx} {N : List Str} {nm : List (Str × NameKind)} {ow : Str → Bool} {a b e e2 tg : Expr} {elts : List Expr} {kk : Nat} {fa fb fc : Fn Dv} {fs : Fn (List Dv)} {pos p tpos : Pos} {q : Bool}
end
end Z

namespace Z
open PySem PySem.Spec PyProof.Rows L2

/-! ### sum of a list or a tuple; the greatest, the least of a list -/
def rSumA (K : PySem.W.Frag) : List V → Hp → VK → Prop := fun vs H Q => ∃ (a : Addr) (ns : List Int), vs = [V.ref a] ∧ (SqL K H a (ns.map V.int) ∨ SqT K H a (ns.map V.int)) ∧ Q (.int ns.sum) H
def gSum (xs : List Dv) (s : Sto) : Rs Dv := match xs with
  | [x] => match (seqOf s x).bind intsOf with | some a => .ok (.int a.sum) s | none => .bad
  | _ => .bad
def gExt1 (le : Int → Int → Bool) (xs : List Dv) (s : Sto) : Rs Dv := match xs with
  | [x] => match (seqOf s x).bind intsOf with
    | some (n :: r) => Rs.iff (isL x s) (.ok (.int (r.foldl (fun a b => if le a b = true then a else b) n)) s)
    | _ => .bad
  | _ => .bad
section
variable {G : Gz} {bs : List Str} {k : Nat} {X : Cx} {N : List Str} {nm : List (Str × NameKind)} {ow : Str → Bool} {a b e : Expr} {fa fb fc : Fn Dv} {fs : Fn (List Dv)} {pos p : Pos}
end
end Z

namespace Z
open PySem PySem.Spec PyProof.Rows L2

/-! ### int(x), abs(x) -/
def gToInt (xs : List Dv) (s : Sto) : Rs Dv := match xs with
  | [.int i] => .ok (.int i) s
  | [.bl b] => .ok (.int (if b = true then 1 else 0)) s
  | _ => .bad
def gAbs (xs : List Dv) (s : Sto) : Rs Dv := match xs with
  | [.int i] => .ok (.int (if i < 0 then -i else i)) s
  | _ => .bad
section
variable {G : Gz} {bs : List Str} {k : Nat} {X : Cx} {N : List Str} {nm : List (Str × NameKind)} {ow : Str → Bool} {a b e : Expr} {es : List Expr} {fa fb fc : Fn Dv} {fs gs : Fn (List Dv)} {pos p kpos : Pos} {x : Str} {n : Nat} {φ : Phi}
/-! ### defs with defaults, calls with keywords -/
/-- the def x of the module, its parameters' names told: dvs are the defaults of its last ones -/
structure Fd (G : Gz) (k : Nat) (x : Str) (n : Nat) (φ : Phi) (f : Addr) (fd : FuncData) (ps : List Str) : Prop where
  len : ∀ ds s d s', φ ds s = .ok d s' → ds.length = n
  mg : G.mg x = some (.ref f)
  kp : PySem.W.keepIn G.K (.ref f) = true
  hn : ps.length = n
  run : FnZ G k f fd ps (spZ G.K n φ)
theorem Fd.mono {G : Gz} {j k : Nat} {x : Str} {n : Nat} {φ : Phi} {f : Addr} {fd : FuncData} {ps : List Str} (F : Fd G j x n φ f fd ps) (h : j ≤ k) : Fd G k x n φ f fd ps := ⟨F.len, F.mg, F.kp, F.hn, F.run.mono h⟩
/-- constants as defaults -/
def cV : Dv → Option V
  | .non => some .non
  | .bl b => some (.bl b)
  | .int i => some (.int i)
  | .str z => some (.str z)
  | _ => none
def fCallD (φ : Phi) (ds : List Dv) (f : Fn (List Dv)) : Fn Dv := fun env s => (f env s).bind fun xs s1 => φ (xs ++ ds) s1
/-- the values of keywords -/
abbrev ZK (X : Cx) (kws : List Keyword) (f : Fn (List Dv)) : Prop := PK X kws (tOfA X.K f)
def fCallK (φ : Phi) (m j : Nat) (f g : Fn (List Dv)) : Fn Dv := fun env s => (f env s).bind fun xs s1 => (g env s1).bind fun zs s2 => Rs.iff (xs.length == m && zs.length == j) (φ (xs ++ zs) s2)
end
end Z

namespace Z
open PySem PySem.Spec PyProof.Rows L2

/-! ### text * int, tuple * int -/
def rMulS : R2 := fun x y H Q => ∃ z i, x = .str z ∧ y = .int i ∧ z.length ≤ 16 ∧ 0 ≤ i ∧ i ≤ 1000000 ∧ Q (.str (Txt.mul z i)) H
theorem op_mulS {X : Cx} : OpR X (binaryOp .Mult) rMulS := by
  intro pins s σ H x y v u Q I rx ry h
  obtain ⟨z, i, rfl, rfl, h1, h2, h3, q⟩ := h
  obtain ⟨t, rfl⟩ := rx
  obtain ⟨t', rfl⟩ := ry
  refine PySem.W.KXi.mul (n := z.length) rfl h1 (by omega) (by omega) fun t'' k _ _ => ?_
  exact ⟨.str _, H, I.tok k, ⟨_, rfl⟩, q⟩
def rMulT (K : PySem.W.Frag) : R2 := fun x y H Q => ∃ l k xs, x = .ref l ∧ y = .int k ∧ SqT K H l xs ∧ xs ≠ [] ∧ 2 ≤ k ∧ k ≤ 1000 ∧ xs.length ≤ 1000 ∧ ∀ p o, H p = none → o.dict = none → Q (.ref p) (upd H p (.frz o (.tup (List.replicate k.toNat xs).flatten)))
theorem op_mulT {X : Cx} : OpR X (binaryOp .Mult) (rMulT X.K) := by
  intro pins s σ H x y v u Q I rx ry h
  obtain ⟨l, k, xs, rfl, rfl, hT, hne, h1, h2, hz, q⟩ := h
  cases rx
  obtain ⟨t, rfl⟩ := ry
  obtain ⟨its, r, ⟨⟨cls, dd, data, sl⟩, ho, hc, n, hd⟩, hs⟩ := I.tuple hT
  simp only at hc hd
  subst hc hd
  have hle : its.length = xs.length := r.length.symm
  have hn : its ≠ [] := fun e => hne (by
    rw [e] at hle
    exact List.eq_nil_of_length_eq_zero hle.symm)
  have hi : its.toArray.isEmpty = false := by
    cases its with
    | nil => exact absurd rfl hn
    | cons a b => rfl
  have hsz0 : its.toArray.size = xs.length := by rw [List.size_toArray, hle]
  have hm : ((its.toArray.size : Nat) : Int) * k ≤ 1000000 := by
    rw [hsz0]
    have a1 : ((xs.length : Nat) : Int) * k ≤ 1000 * k := Int.mul_le_mul_of_nonneg_right (by omega) (by omega)
    omega
  have flen : (List.replicate k.toNat its).flatten.length ≤ sizeLine := by
    rw [PyProof.Rows.lm_len_rep_flat, hle, sizeLine_eq]
    have a1 : k.toNat * xs.length ≤ 1000 * 1000 := Nat.mul_le_mul (by omega) hz
    omega
  have c0 : (decide (k < -(2 ^ 63)) || decide (k ≥ 2 ^ 63)) = false := by
    rw [decide_eq_false (by omega), decide_eq_false (by omega)] <;> rfl
  have c1 : (its.toArray.isEmpty || k == 1) = false := by
    rw [hi, Bool.false_or]
    exact beq_eq_false_iff_ne.mpr (by omega)
  have c2 : (decide (k ≤ 0) || its.toArray.isEmpty) = false := by
    rw [hi, Bool.or_false]
    exact decide_eq_false (by omega)
  have c4 : Builtin.Tuple.tupleTooMany (((its.toArray.size : Nat) : Int) * k) = false := by
    unfold Builtin.Tuple.tupleTooMany
    rw [sizeLine_eq]
    exact decide_eq_false (by omega)
  refine wpAny_binaryOp_repeat_ref (T := "tuple") (U := "int") (by decide) ⟨_, ho, rfl⟩ (fun s' => typeIs_int s' k t) noFill_tuple_mul F.fills_int_mul F.slot_int_rmul repeat_tuple F.slot_int_index.lookup
    (call_meets F.slot_int_rmul (typeIs_int s k t) F.entry_int_rmul (F.args_int_rmul_2 _ _) (int_rmul_tuple k t l its.toArray n dd sl)
      ⟨ho, rfl, ⟨_, ho, rfl⟩, call_meets F.slot_tuple_mul ⟨_, ho, rfl⟩ F.entry_tuple_mul (F.args_tuple_mul_2 _ _) (tuple_mulW l its.toArray n dd sl k t c0 c1 c2 (by omega) c4 (by rw [size_rep, List.size_toArray]; exact flen)) ⟨ho, ?_⟩⟩)
  rw [size_rep]
  exact tupK_new (t' := s.toks) I (by rw [PyProof.Rows.lm_len_rep_flat, sizeLine_eq]; have a1 : k.toNat * xs.length ≤ 1000 * 1000 := Nat.mul_le_mul (by omega) hz; omega) (r.rep k.toNat) q
def gTimes (x y : Dv) (s : Sto) : Rs Dv := match x, y with
  | .int i, .int j => Rs.iff (cMul i j) (.ok (.int (i * j)) s)
  | .str z, .int i => Rs.iff (decide (z.length ≤ 16) && decide (0 ≤ i) && decide (i ≤ 1000000)) (.ok (.str (Txt.mul z i)) s)
  | .tup ds, .int k => Rs.iff (!ds.isEmpty && decide (2 ≤ k) && decide (k ≤ 1000) && decide (ds.length ≤ 1000)) (.ok (.tup (List.replicate k.toNat ds).flatten) s)
  | _, _ => .bad
theorem rps_rep {K : PySem.W.Frag} {B : Lo} {H : Hp} {ds : List Dv} {vs : List V} (r : Rps K B H ds vs) : ∀ n : Nat, Rps K B H (List.replicate n ds).flatten (List.replicate n vs).flatten
  | 0 => .nil
  | n + 1 => by
    rw [List.replicate_succ, List.replicate_succ, List.flatten_cons, List.flatten_cons]
    exact r.append (rps_rep r n)
def rTimes (K : PySem.W.Frag) : R2 := fun x y H Q => rI CMul (fun i j => .int (i * j)) x y H Q ∨ rMulS x y H Q ∨ rMulT K x y H Q
theorem op_times {X : Cx} : OpR X (binaryOp .Mult) (rTimes X.K) := OpR.or op_mul (OpR.or op_mulS op_mulT)
section
variable {X : Cx} {a b : Expr} {fa fb : Fn Dv} {pos : Pos}
end

/-! ### a def that leaves what it made -/
def fDefN (n m : Nat) (body : Fn Ct) (ds : List Dv) (s : Sto) : Rs Dv :=
  Rs.iff (ds.length == n) ((body (ds.map some ++ List.replicate (m - n) none) s).bind fun c s1 => match c with
    | .next _ => .ok .non s1
    | .ret d => .ok d s1
    | _ => .bad)
theorem z_fnN {G : Gz} {bs : List Str} {k : Nat} {x qual : Str} {st : Stmt} {f : Addr} {fd : FuncData} {N ps : List Str} {nm : List (Str × NameKind)} {body : Fn Ct} (F : Fun G.K x qual st f fd) (S : FnScope N ps (defScope st)) (hnm : (defScope st).names = nm)
    (hbl : ∀ y ∈ bs, G.mg y = none) (hbody : ∀ X : Cx, Cz G bs k X N nm (fun _ => true) → ZB X (defBody st) body) : FnZ G (k + 1) f fd ps (spZ G.K ps.length (fDefN ps.length N.length body)) := by
  obtain ⟨oc, od, kV, doc, pm, an, cdv, ct, osl, rfl, lk, hcd⟩ := F.ex
  refine ⟨fun A outer s H args us vs Q hgd hr e0 hb r hsp => ?_⟩
  obtain ⟨hvl, B, ds, st0, d, st1, rd, S0, hf, hQ⟩ := hsp
  have KX : G.K.In s.heap := e0.mod.kin.keeps fun b o e => (e0.bs b o e).1
  have lim : s.heap.NoLimit := e0.mod.nolimit.keeps fun b o e => (e0.bs b o e).1
  have hkind : ∀ y ∈ ps.zip us, (defScope st).names.lookup y.1 = some .local ∨ ((defScope st).names.lookup y.1 = some .cell ∧ ((cellsFrom (s.heap.objs.size + 1) (defScope st).names []).lookup y.1).isSome = true) := fun ⟨n, v⟩ hy => by
    rcases S.par n (List.of_mem_zip hy).1 with q | q
    · exact .inl q
    · exact .inr ⟨q, PySem.W.cellsFrom_some _ _ _ (.inl q)⟩
  refine codeAny_call_function hr.depth (KX _ _ lk) rfl S.co S.gen rfl (PySem.W.codeRec_of KX hcd) (hb _ _ _ _ ?_)
  refine wpAny_newFunctionEnv_cells S.kind hkind fun env he s1 x1 => ?_
  subst he
  refine ⟨lim.keeps x1.toInCall.keep, codeAny_func ?_⟩
  obtain ⟨hdl, hf⟩ := Rs.iff_ok hf
  have hdl : ds.length = ps.length := beq_iff_eq.mp hdl
  obtain ⟨c, s2, hbd, hf⟩ := Rs.bind_ok hf
  have I0 := inv_start (CX := CX0) (E := E0) S hr.hd e0 hvl r x1
  have I : Inv (cxOf CX0 G.prog G.w G.K G.mg G.base N qual (defScope st) f cdv A outer s H E0).nox [] (start N vs) H s1 := I0.wish _
  have cz : Cz G bs k (cxOf CX0 G.prog G.w G.K G.mg G.base N qual (defScope st) f cdv A outer s H E0).nox N nm (fun _ => true) :=
    ⟨rfl, S.nd, S.kind, hnm, rfl, rfl, hr.deeper _, hgd, hbl, rfl, rfl, rfl, rfl, rfl, PassesOwn.never⟩
  have hz := (hbody _ cz).run [] s1 (start N vs) H { nx := fun _ H' => Q .non H', rt := Q } I ⟨B, _, st0, c, s2, start_rp (N := N) rd, S0, by rw [hdl]; exact hbd, ?_⟩
  · refine wpAny_mono hz (fun fl s' hs => ?_) fun _ _ z => False.elim z
    have fin : ∀ {σ' : L2.St} {H' : Hp} {v : V} {u : Value}, Inv (cxOf CX0 G.prog G.w G.K G.mg G.base N qual (defScope st) f cdv A outer s H E0).nox [] σ' H' s' → RelV v u → Q v H' → CE outer G.prog G.w H s Q u s' :=
      fun {σ' H' v u} J rv q => ⟨v, H', J.os, J.bare, J.base, J.hok, rv, q⟩
    cases fl with
    | ret u => obtain ⟨v, σ', H', J, rv, q⟩ := hs; exact fin J rv q
    | next => obtain ⟨σ', H', J, q⟩ := hs; exact fin (v := V.non) (u := Value.none) J rfl q
    | brk => obtain ⟨_, _, _, q⟩ := hs; exact False.elim q
    | cont => obtain ⟨_, _, _, q⟩ := hs; exact False.elim q
  · cases c with
    | next env =>
      cases hf
      exact fun B' H' σ' x e S' _ => hQ B' H' .non x e S' .non
    | ret d' =>
      cases hf
      exact fun B' H' v x e S' r => hQ B' H' v x e S' r
    | brk _ => cases hf
    | cont _ => cases hf
theorem fz_mkN {G : Gz} {bs : List Str} {k n : Nat} {x qual : Str} {st : Stmt} {f : Addr} {fd : FuncData} {N ps : List Str} {nm : List (Str × NameKind)} {body : Fn Ct} (F : Fun G.K x qual st f fd) (hm : G.mg x = some (.ref f)) (hb : Binds G.K fd ps []) (hn : ps.length = n) (S : FnScope N ps (defScope st)) (hnm : (defScope st).names = nm)
    (hbl : ∀ y ∈ bs, G.mg y = none) (hbody : ∀ X : Cx, Cz G bs k X N nm (fun _ => true) → ZB X (defBody st) body) : Fz G (k + 1) x n (fDefN n N.length body) := by
  subst hn
  exact ⟨fun ds s d s' h => beq_iff_eq.mp (Rs.iff_ok h).1, f, fd, ps, hm, F.kp, hb, rfl, z_fnN F S hnm hbl hbody⟩
end Z

/-! # dict(pairs) -/
namespace Z
open PySem PySem.Spec PyProof.Rows L2
def pairsD : List Dv → Option (List (Key × Dv))
  | [] => some []
  | .tup [k, v] :: r => match keyD k, pairsD r with | some k', some r' => some ((k', v) :: r') | _, _ => none
  | _ :: _ => none
def gDictP (xs : List Dv) (s : Sto) : Rs Dv := match xs with
  | [.ls ds] => match pairsD ds with | some kvs => .ok (.loc s.length) (s ++ [.dk (mergeD [] kvs)]) | none => .bad
  | _ => .bad
section
variable {G : Gz} {bs : List Str} {k : Nat} {X : Cx} {N : List Str} {nm : List (Str × NameKind)} {ow : Str → Bool} {e : Expr} {fs : Fn (List Dv)} {pos p : Pos}
end
end Z

/-! # sorted(xs, reverse=b), xs a list of ints -/
namespace Z
open PySem PySem.Spec PyProof.Rows L2
def sortR (b : Bool) (ns : List Int) : List Int := if b = true then (ns.mergeSort fun i j => decide (i ≤ j)).reverse else ns.mergeSort fun i j => decide (i ≤ j)
def gSortR (b : Bool) (xs : List Dv) (s : Sto) : Rs (List Dv) := match xs with
  | [x] => match (seqOf s x).bind intsOf with
    | some ns => Rs.iff (isL x s) (.ok ((sortR b ns).map .int) s)
    | none => .bad
  | _ => .bad
section
variable {G : Gz} {bs : List Str} {k : Nat} {X : Cx} {N : List Str} {nm : List (Str × NameKind)} {ow : Str → Bool} {e : Expr} {fs : Fn (List Dv)} {pos p : Pos} {b : Bool}
end
end Z

/-! # sorted(d.values(), reverse=b), sum(d.values()): the calls -/
namespace Z
open PySem PySem.Spec PyProof.Rows L2
section
variable {prog : Program} {w : World} {A : Around} {E : Value → Shared → Prop} {s : Shared} {T : String} {r d : Addr} {n : Nat} {P : Nat → Value → Prop} {OK : Heap → Prop}
end
end Z

/-! # sorted(d.values(), reverse=b) -/
namespace Z
open PySem PySem.Spec PyProof.Rows L2
def tSortVals (b : Bool) (td : TE) : TE := fun σ H Q => td σ H fun x H1 => ∃ a kvs is, x = V.ref a ∧ H1 a = some (.dK kvs) ∧ kvs.map (·.2) = is.map V.int ∧ is.length ≤ sizeLine ∧ ∀ p, H1 p = none → Q (.ref p) (upd H1 p (.lst ((sortR b is).map V.int)))
section
variable {X : Cx} {o : Expr} {p pos apos mpos kpos cp : Pos} {td : TE} {b : Bool} {j : Nat}
end
end Z

/-! # sorted(d.values(), reverse=b): the rule -/
namespace Z
open PySem PySem.Spec PyProof.Rows L2
def valsOf (s : Sto) : Dv → Option (List Int)
  | .loc n => match s[n]? with | some (.dk kvs) => intsOf (kvs.map (·.2)) | _ => none
  | _ => none
def fSortV (b : Bool) (fd : Fn Dv) : Fn (List Dv) := fun env s => (fd env s).bind fun x s1 => match valsOf s1 x with
  | some ns => Rs.iff (decide (ns.length ≤ 16777216)) (.ok ((sortR b ns).map .int) s1)
  | none => .bad
section
variable {G : Gz} {bs : List Str} {k : Nat} {X : Cx} {N : List Str} {nm : List (Str × NameKind)} {ow : Str → Bool} {o : Expr} {fd : Fn Dv} {p pos apos mpos kpos cp : Pos} {b : Bool} {j : Nat}
end
end Z

/-! # sum(d.values()) -/
namespace Z
open PySem PySem.Spec PyProof.Rows L2
def tSumVals (td : TE) : TE := fun σ H Q => td σ H fun x H1 => ∃ (a : Addr) (kvs : List (Key × V)) (is : List Int), x = V.ref a ∧ H1 a = some (.dK kvs) ∧ kvs.map (·.2) = is.map V.int ∧ Q (.int is.sum) H1
section
variable {X : Cx} {o : Expr} {p pos apos mpos : Pos} {td : TE}
def fSumV (fd : Fn Dv) : Fn Dv := fun env s => (fd env s).bind fun x s1 => match valsOf s1 x with
  | some ns => .ok (.int ns.sum) s1
  | none => .bad
variable {G : Gz} {bs : List Str} {k : Nat} {N : List Str} {nm : List (Str × NameKind)} {ow : Str → Bool} {fd : Fn Dv}
end
end Z

/-! # Errors of the program made: classes over an own class over ValueError or LookupError -/
namespace Z
open PySem PySem.Spec PyProof.Rows L2 PySem.W PySem.HandSPX

/-- what the written part says of an error's class at C: its builtin base B -/
structure OexB (K : PySem.W.Frag) (C : Addr) (B nw ini : String) (mr : List Value) : Prop where
  FB : ExcBaseFacts B nw ini mr
  SF : StoreFacts B mr "object.__setattr__" "object"
  cls : ∃ nm q N bs bm sn sub ab col dd k0 k1 k2 k3 k5, K.lookup C = some (excClassObj nm q C N bs bm true sn sub ab col dd k0 k1 k2 k3 k5 nw) ∧ excTail mr bm = true
  sa : findIn K (.ref C) "__setattr__" = some (some (.builtin "object.__setattr__"))
  exC : subIn K (.ref C) (.type "BaseException") = some true
  tyC : typeIn K (.ref C) = some (.type "type")
  kC : keepIn K (.ref C) = true
section
variable {K : PySem.W.Frag} {C : Addr} {B nw ini : String} {mr : List Value}
theorem OexB.cd (T : OexB K C B nw ini mr) : ∃ cd : ClassData, clsIn K C = some cd ∧ cd.hasDict = true ∧ excOver K C mr = true := by
  obtain ⟨nm, q, N, bs, bm, sn, sub, ab, col, dd, k0, k1, k2, k3, k5, hC, hbm⟩ := T.cls
  have hcl : clsIn K C = some { name := nm, bases := bs, mro := .ref C :: bm, ns := N, qualname := q, hasDict := true, slotNames := sn, subclasses := sub, abstract := ab, collection := col, hasDel := false } := by
    unfold clsIn; rw [hC]
  refine ⟨_, hcl, rfl, ?_⟩
  unfold excOver
  rw [hcl]
  show (C == C && excTail mr bm) = true
  rw [hbm]; simp
end
section
open Builtin Builtin.ObjectAttr
variable {prog : Program} {w : World} {A : Around} {E : Value → Shared → Prop} {R : Result → Shared → Prop} {hp : Heap} {g : Array GenState} {d : Drawn} {t : Nat} {os : OsState}
variable {K : PySem.W.Frag} {name : Str} {tk : Tok} {v : Value} {x C dx : Addr} {fv : Array Value} {B nw ini : String} {mr : List Value}
end
section
variable {X : Cx} {pins : List (Addr × Obj)} {σ : L2.St} {H : Hp} {s : Shared} {a C dx : Addr} {f : Str} {y : V} {u : Value} {fs : List (Str × V)} {E : Value → Shared → Prop} {A : Around} {B nw ini : String} {mr : List Value}
end
/-! ### readings -/
/-- Base.__init__(self, ..), Base an own class without __init__ -/
def tBi (K : PySem.W.Frag) (ini : String) (ta : TA) : TE := fun σ H Q => ta σ H fun vs H1 => ∃ (a C : Addr) (B nw : String) (mr : List Value) (ws : List V), vs = .ref a :: ws ∧ ws.length ≤ 1000 ∧ OexB K C B nw ini mr ∧ H1 a = some (exo a C none) ∧ Q .non H1
/-- self.f = e on an error that is being made -/
def tFs (K : PySem.W.Frag) (f : Str) (to te : TE) : TS := fun D σ H => te σ H fun y H1 => to σ H1 fun x H2 => ∃ (a C : Addr) (B nw ini : String) (mr : List Value), x = .ref a ∧ OexB K C B nw ini mr ∧ takerIn K C f = some none ∧
  ((H2 a = some (exo a C none) ∧ ∀ dx, H2 dx = none → dx ≠ a → D.nx σ (upd (upd H2 dx (exd dx [(f, y)])) a (exo a C (some dx)))) ∨
    ∃ (dx : Addr) (fs : List (Str × V)), H2 a = some (exo a C (some dx)) ∧ H2 dx = some (exd dx fs) ∧ fs.length ≤ 900 ∧ D.nx σ (upd H2 dx (exd dx ((f, y) :: fs))))
/-- an own class is read: what its __init__ is -/
structure BaseI (K : PySem.W.Frag) (mg : Str → Option Value) (b : Str) (ini : String) : Prop where
  ex : ∃ (D : Addr), mg b = some (.ref D) ∧ specialIn K (.ref D) "__getattribute__" = some (some (.builtin "type.__getattribute__")) ∧ readsIn K D (.type "type") = true ∧ findCls K (.ref D) (.type "type") "__init__" = some (.val (.builtin ini))
  hi : handedIn (.builtin ini) = true
section
variable {X : Cx} {o e : Expr} {es : List Expr} {to te : TE} {ta : TA} {f b : Str} {p p' p1 p2 pos : Pos} {ini : String}
end
end Z

/-! # Errors of the program: __init__ as a def, an error made and raised -/
namespace Z
open PySem PySem.Spec PyProof.Rows L2 PySem.W PySem.HandSPX

/-- __init__ of an error with the fields fs -/
def spI (C : Addr) (fs : List Str) : Sp := fun vs H Q _ => ∃ (a : Addr) (ws : List V), vs = .ref a :: ws ∧ ws.length = fs.length ∧ H a = some (exo a C none) ∧
  ∀ (dx : Addr) (H' : Hp), H dx = none → dx ≠ a → H' a = some (exo a C (some dx)) → H' dx = some (exd dx (fs.zip ws).reverse) → (∀ b, b ≠ a → b ≠ dx → H' b = H b) → Q .non H'
/-- an own class is called, its __init__ read off it -/
def InitForm (b : Str) (p1 p2 p3 p4 pos : Pos) (txt : Str) (j : Nat) : Prop := ∀ env : Env, ∃ pl : Sem Bool, eval (.Call (.Attribute (.Name b p1) "__init__" p2) [.Name "self" p3, .Constant (.str txt) j p4] [] pos) env = (do
      let ov ← eval (.Name b p1) env
      standAt p2.atName
      let (f, first) ← holding [ov] (getMethod ov "__init__" pl)
      callWith pos f first (backTo pos (starEach [.Name "self" p3, .Constant (.str txt) j p4] env)) (backToKw pos (keywordEach [] env)))
section
variable {P : Program} {w : World} {K : PySem.W.Frag} {mg : Str → Option Value} {base : Heap} {qual b f g : Str} {st : Stmt} {fI C : Addr} {fd : FuncData} {B nw ini : String} {mr : List Value}
/-- the scope of an __init__ -/
structure ScI (st : Stmt) (b : Str) (fs : List Str) : Prop where
  S : FnScope (("self" : Str) :: fs) (("self" : Str) :: fs) (defScope st)
  s0 : (defScope st).names.lookup ("self" : Str) = some .local
  s1 : ∀ f ∈ fs, (defScope st).names.lookup f = some .local
  sb : (defScope st).names.lookup b = some .globalImplicit
end
/-- C(e, ..) with the fields fs -/
def tMk (C : Addr) (fs : List Str) (ta : TA) : L2.St → Hp → XK → Prop := fun σ H Q => ta σ H fun vs H1 => vs.length = fs.length ∧ ∀ d, H1 d = none → Q (.ref C) (some d) (upd H1 d (.xd (fs.zip vs).reverse))
section
variable {X : Cx} {x : Str} {e : Expr} {es : List Expr} {ta : TA} {p pos : Pos} {C fI : Addr} {fd : FuncData} {fs : List Str} {B nw ini : String} {mr : List Value} {k : Nat}
end
end Z

/-! # Readings in which an error may come up -/
namespace Z
open PySem PySem.Spec PyProof.Rows L2

def clsN : Nat → Str
  | 0 => "NoPaper"
  | 1 => "NoEnd"
  | 2 => "NoPage"
  | 3 => "NoText"
  | 4 => "NoRow"
  | 5 => "NoName"
  | 6 => "NoPile"
  | 7 => "NoStep"
  | 8 => "NoPart"
  | _ => "NoBack"
def Out {α : Type} (r : Rs α) (P : α → Sto → Prop) (E : Dv → Sto → Prop) : Prop := match r with
  | .ok a s => P a s
  | .exc e s => E e s
  | .bad => False
theorem Out.bind {α β : Type} {r : Rs α} {f : α → Sto → Rs β} {P : β → Sto → Prop} {E : Dv → Sto → Prop} (h : Out (r.bind f) P E) : Out r (fun a s => Out (f a s) P E) E := by
  cases r <;> exact h
theorem Out.mono {α : Type} {r : Rs α} {P Q : α → Sto → Prop} {E F : Dv → Sto → Prop} (h : Out r P E) (hp : ∀ a s, P a s → Q a s) (he : ∀ e s, E e s → F e s) : Out r Q F := by
  cases r with
  | ok a s => exact hp _ _ h
  | exc e s => exact he _ _ h
  | bad => exact h
/-- what raises nothing -/
def Rs.sure {α : Type} (r : Rs α) : Rs α := match r with
  | .exc _ _ => .bad
  | r => r
theorem Out.sure {α : Type} {r : Rs α} {P : α → Sto → Prop} {E : Dv → Sto → Prop} (h : Out r.sure P E) : ∃ a s, r = .ok a s ∧ P a s := by
  cases r with
  | ok a s => exact ⟨a, s, rfl, h⟩
  | exc e s => exact False.elim h
  | bad => exact False.elim h
theorem Out.iff {α : Type} {c : Bool} {r : Rs α} {P : α → Sto → Prop} {E : Dv → Sto → Prop} (h : Out (Rs.iff c r) P E) : c = true ∧ Out r P E := by
  unfold Rs.iff at h
  split at h
  · exact ⟨by assumption, h⟩
  · exact False.elim h

/-- an error in the air, of class cls with its dict d -/
def XRp (K : PySem.W.Frag) (mg : Str → Option Value) (B : Lo) (H : Hp) (e : Dv) (cls : Value) (d : Option Addr) : Prop :=
  ∃ (c : Nat) (fs : List Dv) (C dd : Addr) (kvs : List (Str × V)) (vs : List V), e = .xn 0 0 c fs ∧ mg (clsN c) = some (.ref C) ∧ cls = .ref C ∧ d = some dd ∧ H dd = some (.xd kvs) ∧ dd ∉ B.locs ∧ dd ∉ B.hid ∧
    (fldN c).mapM (fun f => kvs.lookup f) = some vs ∧ Rps K B H fs vs
def XPost (K : PySem.W.Frag) (mg : Str → Option Value) (W : Value → Option Addr → Hp → Prop) (B : Lo) (H : Hp) (s' : Sto) (e : Dv) : Prop :=
  ∀ (B' : Lo) (H' : Hp) (cls : Value) (d : Option Addr), Ext B H B' H' → B'.hid = B.hid → Sim K B' H' s' → XRp K mg B' H' e cls d → W cls d H'
section
variable {K : PySem.W.Frag} {mg : Str → Option Value} {W : WX} {B B1 : Lo} {H H1 : Hp} {σ : L2.St} {s' : Sto} {e d : Dv} {Q : VK}
theorem XPost.ahead {W : Value → Option Addr → Hp → Prop} (h : XPost K mg W B H s' e) (x : Ext B H B1 H1) (ee : B1.hid = B.hid) : XPost K mg W B1 H1 s' e := fun B' H' cls d x' e' S r => h B' H' cls d (x.trans x') (e'.trans ee) S r
theorem PostZ.ahead (h : PostZ K B H s' d Q) (x : Ext B H B1 H1) (ee : B1.hid = B.hid) : PostZ K B1 H1 s' d Q := fun B' H' v x' e' S r => h B' H' v (x.trans x') (e'.trans ee) S r
end
/-- the wish at the slots σ -/
abbrev WAt (W : WX) (σ : L2.St) : Value → Option Addr → Hp → Prop := fun cls d H => W cls d σ H
def tX (K : PySem.W.Frag) (mg : Str → Option Value) (W : WX) (f : Fn Dv) : TE := fun σ H Q => ∃ B env s, RpE K B H env σ ∧ Sim K B H s ∧ Out (f env s) (fun d s' => PostZ K B H s' d Q) (fun e s' => XPost K mg (WAt W σ) B H s' e)
def tXA (K : PySem.W.Frag) (mg : Str → Option Value) (W : WX) (f : Fn (List Dv)) : TA := fun σ H Q => ∃ B env s, RpE K B H env σ ∧ Sim K B H s ∧
  Out (f env s) (fun ds s' => ∀ (B' : Lo) (H' : Hp) (vs : List V), Ext B H B' H' → B'.hid = B.hid → Sim K B' H' s' → Rps K B' H' ds vs → Q vs H') (fun e s' => XPost K mg (WAt W σ) B H s' e)
def tXS (K : PySem.W.Frag) (mg : Str → Option Value) (W : WX) (f : Fn Ct) : TS := fun D σ H => ∃ B env s, RpE K B H env σ ∧ Sim K B H s ∧ Out (f env s) (fun c s' => PostC K B H s' D c) (fun e s' => XPost K mg (WAt W σ) B H s' e)
abbrev ZX (X : Cx) (W : WX) (e : Expr) (f : Fn Dv) : Prop := PE X e (tX X.K X.mg W f)
abbrev ZXA (X : Cx) (W : WX) (es : List Expr) (f : Fn (List Dv)) : Prop := PA X es (tXA X.K X.mg W f)
abbrev ZXS (X : Cx) (W : WX) (st : Stmt) (f : Fn Ct) : Prop := PS X st (tXS X.K X.mg W f)
abbrev ZXB (X : Cx) (W : WX) (st : List Stmt) (f : Fn Ct) : Prop := PSs X st (tXS X.K X.mg W f)
def fSure {α : Type} (f : Fn α) : Fn α := fun env s => (f env s).sure
section
variable {G : Gz} {bs : List Str} {k : Nat} {X : Cx} {N : List Str} {nm : List (Str × NameKind)} {ow : Str → Bool} {W : WX} {a b c e o i v : Expr} {es : List Expr} {fa fb fc : Fn Dv} {fs : Fn (List Dv)} {pos p : Pos} {x : Str} {i j : Nat} {st : Stmt} {rest ss tt : List Stmt} {f g : Fn Ct} {tc : Fn Bool}
/-- an operator whose operands may raise -/
def sure3 (g : Dv → Dv → Sto → Rs Dv) : Dv → Dv → Sto → Rs Dv := fun x y s => (g x y s).sure
/-- a[i] of what may raise, a tuple or a list -/
def gIxS (x y : Dv) (s : Sto) : Rs Dv := match y with
  | .int i => match (seqOf s x).bind (atI · i) with | some d => .ok d s | none => .bad
  | _ => .bad
def rSeqX (K : PySem.W.Frag) : V → V → Hp → VK → Prop := fun v w H Q => (∃ p xs i u, v = .ref p ∧ w = .int i ∧ SqL K H p xs ∧ atI xs i = some u ∧ Q u H) ∨ ∃ p xs i u, v = .ref p ∧ w = .int i ∧ SqT K H p xs ∧ atI xs i = some u ∧ Q u H
/-! ### statements -/
end
end Z

/-! # Defs that may raise; raise; their calls -/
namespace Z
open PySem PySem.Spec PyProof.Rows L2

/-! ### raise -/
structure ErrC (G : Gz) (c : Nat) : Prop where
  ex : ∃ (C fI : Addr) (fd : FuncData) (B nw ini : String) (mr : List Value), G.mg (clsN c) = some (.ref C) ∧ OexB G.K C B nw ini mr ∧ PySem.W.findIn G.K (.ref C) "__init__" = some (some (.ref fI)) ∧
    PySem.W.typeIn G.K (.ref fI) = some (.type "function") ∧ Binds G.K fd ("self" :: fldN c) [] ∧ FnOk G.prog G.w G.K G.mg G.base CX0 1 fI fd ("self" :: fldN c) (spI C (fldN c))
def fRaise (cn : Nat) (fs : Fn (List Dv)) : Fn Ct := fun env s => (fs env s).bind fun ds s1 => Rs.iff (ds.length == (fldN cn).length) (.exc (.xn 0 0 cn ds) s1)
section
variable {G : Gz} {bs : List Str} {k : Nat} {X : Cx} {N : List Str} {nm : List (Str × NameKind)} {ow : Str → Bool} {W : WX} {e : Expr} {es : List Expr} {fs : Fn (List Dv)} {pos p pos2 : Pos} {cn : Nat} {x : Str} {n : Nat} {φ : Phi}
/-! ### calls -/
def spX (K : PySem.W.Frag) (mg : Str → Option Value) (n : Nat) (φ : Phi) : Sp := fun vs H Q E => vs.length = n ∧ ∃ B ds s, Rps K B H ds vs ∧ Sim K B H s ∧ Out (φ ds s) (fun d s' => PostZ K B H s' d Q) (fun e s' => XPost K mg E B H s' e)
/-- a def that may raise, at f -/
structure FnX (G : Gz) (k : Nat) (f : Addr) (fd : FuncData) (ps : List Str) (sp : Sp) : Prop where
  run : ∀ (A : Around) (outer : List Env) (s : Shared) (H : Hp) (args : Args) (us : List Value) (vs : List V) (Q : VK) (E : XK), A.guards = some [] → Room k A → Env0 G.prog G.w G.K G.mg G.base A outer s H → BindsTo s fd args (ps.zip us) → Vals vs us → sp vs H Q E →
    codeAny (model G.prog G.w) A (.call (.ref f) args) (CR (L2N.CX G.prog G.w) outer G.prog G.w H s Q E) s
structure FzX (G : Gz) (k : Nat) (x : Str) (n : Nat) (φ : Phi) : Prop where
  len : ∀ ds s, φ ds s ≠ .bad → ds.length = n
  ex : ∃ (f : Addr) (fd : FuncData) (ps : List Str), G.mg x = some (.ref f) ∧ PySem.W.keepIn G.K (.ref f) = true ∧ Binds G.K fd ps [] ∧ ps.length = n ∧ FnX G k f fd ps (spX G.K G.mg n φ)
theorem FzX.mono {j : Nat} (F : FzX G j x n φ) (h : j ≤ k) : FzX G k x n φ := by
  obtain ⟨f, fd, ps, h1, h2, h3, h4, h5⟩ := F.ex
  exact ⟨F.len, f, fd, ps, h1, h2, h3, h4, ⟨fun A outer s H args us vs Q E hg hr => h5.run A outer s H args us vs Q E hg (hr.mono h)⟩⟩
theorem Out.nb {α : Type} {r : Rs α} {P : α → Sto → Prop} {E : Dv → Sto → Prop} (h : Out r P E) : r ≠ .bad := fun z => by rw [z] at h; exact h
/-- a def that raises nothing, arguments that may raise -/
def sureP (φ : Phi) : Phi := fun ds s => (φ ds s).sure
end

/-! ### what an error leaves of a def's store -/
def gcX {α : Type} (b : Nat) (e : Dv) (s : Sto) : Rs α := if (below b e && keepsZ b s) = true then .exc e (s.take b) else .bad
def fDefX (n m : Nat) (body : Fn Ct) (ds : List Dv) (s : Sto) : Rs Dv :=
  Rs.iff (ds.length == n) (match body (ds.map some ++ List.replicate (m - n) none) s with
    | .ok (.next _) s1 => gcZ s.length .non s1
    | .ok (.ret d) s1 => gcZ s.length d s1
    | .exc e s1 => gcX s.length e s1
    | _ => .bad)
end Z

/-! # The errors' classes: who is whose; isinstance, fields -/
namespace Z
open PySem PySem.Spec PyProof.Rows L2 PySem.W

theorem nbeq (i j : Nat) : (j == i) = (i == j) := by
  by_cases h : i = j
  · rw [h]
  · rw [beq_eq_false_iff_ne.mpr h, beq_eq_false_iff_ne.mpr (Ne.symm h)]
/-- the names of the classes: the ten, their two bases -/
def tN : Nat → Str
  | 10 => "CountError"
  | 11 => "LostError"
  | i => clsN i
def veT : List Value := [.type "ValueError", .type "Exception", .type "BaseException", .type "object"]
def leT : List Value := [.type "LookupError", .type "Exception", .type "BaseException", .type "object"]
def mrT (A : Nat → Addr) (i : Nat) : List Value := if i ≤ 4 then .ref (A 10) :: veT else if i ≤ 9 then .ref (A 11) :: leT else if i = 10 then veT else leT
/-- a class that the text has -/
def Has (pr : Nat → Bool) (i : Nat) : Prop := i < 12 ∧ pr i = true
/-- what the top has written of the classes -/
structure ErrsT (K : PySem.W.Frag) (mg : Str → Option Value) (A : Nat → Addr) (pr : Nat → Bool) : Prop where
  p10 : pr 10 = true
  p11 : pr 11 = true
  mg : ∀ i, Has pr i → mg (tN i) = some (.ref (A i))
  lk : ∀ i, Has pr i → ∃ q N bs sn sub ab col dd k0 k1 k2 k3 k5 nw, K.lookup (A i) = some (excClassObj (tN i) q (A i) N bs (mrT A i) true sn sub ab col dd k0 k1 k2 k3 k5 nw)
  ty : ∀ i, Has pr i → typeIn K (.ref (A i)) = some (.type "type")
  ga : ∀ i, i < 9 → pr i = true → findIn K (.ref (A i)) "__getattribute__" = some (some (.builtin "BaseException.__getattribute__"))
  gg : ∀ i, i < 9 → pr i = true → findIn K (.ref (A i)) "__getattr__" = some none
  cl : ∀ i, i < 9 → pr i = true → findIn K (.ref (A i)) "__class__" = some (some (.builtin "object.__class__"))
  fn : ∀ i, i < 9 → pr i = true → ∀ f ∈ fldN i, findIn K (.ref (A i)) f = some none
  sg : specialIn K (.builtin "object.__class__") "__get__" = some (some (.builtin "getset_descriptor.__get__"))
  tk : takesIn K (.builtin "object.__class__") = some true
section
variable {K : PySem.W.Frag} {mg : Str → Option Value} {A : Nat → Addr} {pr : Nat → Bool} (T : ErrsT K mg A pr)
theorem tN_inj : ∀ i, i < 12 → ∀ j, j < 12 → tN i = tN j → i = j := by decide +kernel
include T
theorem ErrsT.inj {i j : Nat} (hi : Has pr i) (hj : Has pr j) (h : A i = A j) : i = j := by
  obtain ⟨q, N, bs, sn, sub, ab, col, dd, k0, k1, k2, k3, k5, nw, e⟩ := T.lk i hi
  obtain ⟨q', N', bs', sn', sub', ab', col', dd', k0', k1', k2', k3', k5', nw', e'⟩ := T.lk j hj
  rw [h, e'] at e
  have e := Option.some.inj e
  unfold excClassObj at e
  injection e with _ _ e _
  injection e with e
  injection e with e
  exact (tN_inj j hj.1 i hi.1 e).symm
theorem ErrsT.cls {i : Nat} (hi : Has pr i) : ∃ cd : ClassData, clsIn K (A i) = some cd ∧ cd.mro = .ref (A i) :: mrT A i ∧ cd.hasDict = true := by
  obtain ⟨q, N, bs, sn, sub, ab, col, dd, k0, k1, k2, k3, k5, nw, e⟩ := T.lk i hi
  refine ⟨{ name := tN i, bases := bs, mro := .ref (A i) :: mrT A i, ns := N, qualname := q, hasDict := true, slotNames := sn, subclasses := sub, abstract := ab, collection := col, hasDel := false }, ?_, rfl, rfl⟩
  unfold clsIn; rw [e]
theorem ErrsT.sub {i : Nat} (hi : Has pr i) (v : Value) : subIn K (.ref (A i)) v = some ((Value.ref (A i) :: mrT A i).contains v) := by
  obtain ⟨cd, h1, h2, _⟩ := T.cls hi
  show mroIn K (A i) v = _
  unfold mroIn
  rw [h1, Option.bind_some, h2]
  rfl
def bsN (i : Nat) : Nat := if i ≤ 4 then 10 else 11
/-- an own class is the class j or beneath it -/
def subO (i j : Nat) : Bool := i == j || (decide (i < 10) && j == bsN i)
theorem ErrsT.subO {i j : Nat} (hi : Has pr i) (hj : Has pr j) : subIn K (.ref (A i)) (.ref (A j)) = some (Z.subO i j) := by
  rw [T.sub hi]
  have inj : ∀ a b : Nat, Has pr a → Has pr b → (Value.ref (A a) == Value.ref (A b)) = (a == b) := fun a b ha hb => by
    by_cases h : a = b
    · subst h; simp
    · rw [show (a == b) = false by simpa using h]
      refine Bool.eq_false_iff.mpr fun z => h (T.inj ha hb (Value.ref.inj (beq_iff_eq.mp z)))
  have nt : ∀ (s : String) (a : Nat), (Value.ref (A a) == Value.type s) = false := fun s a => Bool.eq_false_iff.mpr fun z => by cases beq_iff_eq.mp z
  have e1 := inj j i hj hi
  unfold Z.subO mrT bsN
  by_cases h4 : i ≤ 4
  · have e2 := inj j 10 hj ⟨by decide, T.p10⟩
    rw [if_pos h4, if_pos h4]
    simp only [List.contains_cons, veT, e1, e2, nt, List.contains_nil, Bool.or_false, show decide (i < 10) = true from decide_eq_true (by omega), Bool.true_and]
    rw [nbeq i j]
  · rw [if_neg h4, if_neg h4]
    by_cases h9 : i ≤ 9
    · have e2 := inj j 11 hj ⟨by decide, T.p11⟩
      rw [if_pos h9]
      simp only [List.contains_cons, leT, e1, e2, nt, List.contains_nil, Bool.or_false, show decide (i < 10) = true from decide_eq_true (by omega), Bool.true_and]
      rw [nbeq i j]
    · rw [if_neg h9]
      simp only [show decide (i < 10) = false from decide_eq_false (by omega), Bool.false_and, Bool.or_false]
      split <;> simp only [List.contains_cons, veT, leT, e1, nt, List.contains_nil, Bool.or_false] <;> rw [nbeq i j]
/-- .. is beneath ValueError, LookupError -/
theorem ErrsT.kitB {i : Nat} (hi : i < 9) (hp : pr i = true) (b : Bool) : kitOne K (.ref (A i)) (.type (if b then "LookupError" else "ValueError")) = some (b == decide (4 < i)) := by
  have h1 : kitCls K (.ref (A i)) (.type (if b then "LookupError" else "ValueError")) = some (b == decide (4 < i)) := by
    have hm : kitMeta (if b then "LookupError" else "ValueError") = true := by cases b <;> decide +kernel
    show (if kitMeta _ = true then subIn K (.ref (A i)) (.type _) else none) = _
    rw [if_pos hm, T.sub ⟨by omega, hp⟩]
    unfold mrT
    have nt : ∀ (s : String) (a : Nat), (Value.type s == Value.ref (A a)) = false := fun s a => Bool.eq_false_iff.mpr fun z => by cases beq_iff_eq.mp z
    by_cases h4 : i ≤ 4
    · rw [if_pos h4, decide_eq_false (by omega)]
      simp only [List.contains_cons, veT, nt]
      cases b <;> decide +kernel
    · rw [if_neg h4, if_pos (by omega), decide_eq_true (by omega)]
      simp only [List.contains_cons, leT, nt]
      cases b <;> decide +kernel
  unfold kitOne
  rw [if_neg (by simp), h1]
theorem ErrsT.exc {i : Nat} (hi : i < 9) (hp : pr i = true) : ExcC K (A i) ∧ XfC K (A i) := by
  have hs : subIn K (.ref (A i)) (.type "BaseException") = some true := by
    rw [T.sub ⟨by omega, hp⟩]
    unfold mrT
    by_cases h4 : i ≤ 4
    · rw [if_pos h4]; simp [veT]
    · rw [if_neg h4, if_pos (by omega)]; simp [leT]
  have ho : mroIn K (A i) (.type "object") = some true := by
    have := T.sub (i := i) ⟨by omega, hp⟩ (.type "object")
    rw [show mroIn K (A i) (.type "object") = subIn K (.ref (A i)) (.type "object") from rfl, this]
    unfold mrT
    by_cases h4 : i ≤ 4
    · rw [if_pos h4]; simp [veT]
    · rw [if_neg h4, if_pos (by omega)]; simp [leT]
  have hd : hasDictIn K (A i) = true := by
    obtain ⟨cd, h1, h2, h3⟩ := T.cls (i := i) ⟨by omega, hp⟩
    unfold hasDictIn
    rw [h1]
    exact h3
  exact ⟨⟨T.ga i hi hp, T.gg i hi hp, hs, hd, T.cl i hi hp, T.sg, T.tk, ho⟩, ⟨T.ga i hi hp, T.gg i hi hp, hs, hd⟩⟩
end
end Z

/-! # Where an error is handled: isinstance, its fields -/
namespace Z
open PySem PySem.Spec PyProof.Rows L2 PySem.W
variable {pr : Nat → Bool}

section
variable {prog : Program} {w : World} {A : Around} {E : Value → Shared → Prop} {s : Shared} {K : PySem.W.Frag} {x D : Addr} {ox : Obj} {od : Option Obj}
end

/-- where the error at a (its dict at dd, its class number c) is handled -/
structure Ch (pr : Nat → Bool) (G : Gz) (bs : List Str) (k : Nat) (X : Cx) (N : List Str) (nm : List (Str × NameKind)) (a dd : Addr) (c : Nat) : Prop where
  hN : X.N = N
  nd : N.Nodup
  kd : X.env.scope.kind = .function
  nm : X.env.scope.names = nm
  ow : X.fn = fun _ => true
  rm : L2H.RoomH k X.A
  gd : X.A.guards = some []
  bl : ∀ x ∈ bs, X.mg x = none
  gp : X.prog = G.prog
  gw : X.w = G.w
  gK : X.K = G.K
  gm : X.mg = G.mg
  gb : X.base = G.base
  c9 : c < 9
  cp : pr c = true
  hot : ∃ (A : Nat → Addr) (oe : Obj), ErrsT G.K G.mg A pr ∧ (a, oe) ∈ X.pn ∧ L2H.Hot1 X.A (a, oe) ∧ oe.cls = .ref (A c) ∧ oe.dict = some dd
section
variable {G : Gz} {bs : List Str} {k : Nat} {X : Cx} {N : List Str} {nm : List (Str × NameKind)} {a dd : Addr} {cn : Nat} {x : Str} {i : Nat} {pos p p2 pos' : Pos} {e : Expr} {es : List Expr} {fa : Fn Dv} {fs : Fn (List Dv)}
theorem Ch.gl (c : Ch pr G bs k X N nm a dd cn) (h : gOk nm x = true) : Gl X x := by
  unfold gOk at h
  show X.env.scope.names.lookup x = _
  rw [c.nm]
  split at h
  · assumption
  · cases h
theorem Ch.blt (c : Ch pr G bs k X N nm a dd cn) (h : bOk bs nm x = true) : Gl X x ∧ X.mg x = none := by
  unfold bOk at h
  rw [Bool.and_eq_true] at h
  exact ⟨c.gl h.1, c.bl x (List.contains_iff_mem.mp h.2)⟩
/-! ### isinstance -/
/-- the error itself -/
def gErr (a dd : Addr) (c : Nat) (d : Dv) : Option (List Dv) := match d with
  | .xn a' d' c' fs => if a' = a ∧ d' = dd ∧ c' = c then some fs else none
  | _ => none
/-- the names that isinstance is asked about: an own class by its number, ValueError, LookupError -/
inductive Tn where
  | own (j : Nat) | base (b : Bool)
def Tn.name : Tn → Str
  | .own j => tN j
  | .base b => Str.ofString (if b then "LookupError" else "ValueError")
def Tn.is (c : Nat) : Tn → Bool
  | .own j => subO c j
  | .base b => b == decide (4 < c)
def Tn.ok (pr : Nat → Bool) : Tn → Bool
  | .own j => decide (j < 12) && pr j
  | .base _ => true
/-- what the name stands for -/
def Tn.val (A : Nat → Addr) : Tn → V
  | .own j => .ref (A j)
  | .base b => .ty (if b then "LookupError" else "ValueError")
def Tn.value (A : Nat → Addr) : Tn → Value
  | .own j => .ref (A j)
  | .base b => .type (if b then "LookupError" else "ValueError")
/-- the name as a value -/
def tOk (bs : List Str) (nm : List (Str × NameKind)) : Tn → Bool
  | .own j => gOk nm (tN j)
  | .base b => bOk bs nm (Str.ofString (if b then "LookupError" else "ValueError"))
/-- the reading of isinstance(e, T): asked of the error that is handled -/
def fIsx (a dd : Addr) (cn : Nat) (t : Tn) (f : Fn Dv) : Fn Dv := fun env s => (f env s).bind fun d s1 => match gErr a dd cn d with
  | some _ => .ok (.bl (t.is cn)) s1
  | none => .bad
def rIsx (X : Cx) (a dd : Addr) (C : Addr) : List V → Hp → VK → Prop := fun xs H Q => ∃ (v : V) (cv : Value) (b : Bool) (kvs : List (Str × V)), xs = [.ref a, v] ∧ H dd = some (.xd kvs) ∧ (∀ u, RelV v u → u = cv) ∧ kitOne X.K (.ref C) cv = some b ∧ Q (.bl b) H
/-! isinstance(e, (T1, T2, ..)) -/
def fIsxT (a dd : Addr) (cn : Nat) (ts : List Tn) (f : Fn Dv) : Fn Dv := fun env s => (f env s).bind fun d s1 => match gErr a dd cn d with
  | some _ => .ok (.bl (ts.any fun t => t.is cn)) s1
  | none => .bad
def rIsxT (X : Cx) (a dd : Addr) (C : Addr) : List V → Hp → VK → Prop := fun xs H Q => ∃ (tp : Addr) (o : Obj) (ws : List V) (cvs : List Value) (b : Bool) (kvs : List (Str × V)), xs = [.ref a, .ref tp] ∧ H dd = some (.xd kvs) ∧ H tp = some (.frz o (.tup ws)) ∧
  (∀ us, Vals ws us → us = cvs) ∧ kitAny X.K (.ref C) cvs = some b ∧ Q (.bl b) H
def tnE (l : List (Tn × Pos)) : List Expr := l.map fun (q : Tn × Pos) => .Name q.1.name q.2
def tTns (A : Nat → Addr) (ts : List Tn) : TA := fun σ H Q => Q (ts.map fun t => t.val A) H
/-! ### e.f -/
def fFld (a dd : Addr) (cn j : Nat) (f : Fn Dv) : Fn Dv := fun env s => (f env s).bind fun d s1 => match gErr a dd cn d with
  | some fs => match fs[j]? with | some x => .ok x s1 | none => .bad
  | none => .bad
end
end Z

/-! # Where an error is handled: its fields, defs called there -/
namespace Z
open PySem PySem.Spec PyProof.Rows L2 PySem.W
variable {pr : Nat → Bool}
section
variable {G : Gz} {bs : List Str} {k : Nat} {X : Cx} {N : List Str} {nm : List (Str × NameKind)} {a dd : Addr} {cn : Nat} {x : Str} {i n : Nat} {pos p p2 pos' : Pos} {e e2 : Expr} {es : List Expr} {fa fb : Fn Dv} {fs : Fn (List Dv)}
/-- the reading of e.f -/
def fFldX (a dd : Addr) (cn : Nat) (f : Str) (g : Fn Dv) : Fn Dv := fun env s => (g env s).bind fun d s1 => match gErr a dd cn d with
  | some fs => match (fldN cn).findIdx? (· == f) with
    | some j => match fs[j]? with | some x => .ok x s1 | none => .bad
    | none => .bad
  | none => .bad
/-- == of flat things -/
def gEqF (x y : Dv) (s : Sto) : Rs Dv := match x, y with
  | .int i, .int j => .ok (.bl (i == j)) s
  | .str i, .str j => .ok (.bl (i == j)) s
  | .bl i, .bl j => .ok (.bl (i == j)) s
  | _, _ => .bad
/-! ### defs called there -/
abbrev PhiH := Addr → Addr → Nat → Phi
def spH (pr : Nat → Bool) (G : Gz) (n : Nat) (φ : PhiH) (vs : List V) (H : Hp) (Q : VK) (p : Addr × Obj) : Prop := vs.length = n ∧ ∃ (A : Nat → Addr) (c : Nat) (dd : Addr), ErrsT G.K G.mg A pr ∧ c < 9 ∧ pr c = true ∧ p.2.cls = .ref (A c) ∧ p.2.dict = some dd ∧
  ∃ B ds s d s', Rps G.K B H ds vs ∧ Sim G.K B H s ∧ φ p.1 dd c ds s = .ok d s' ∧ PostZ G.K B H s' d Q
structure FnHZ (G : Gz) (k : Nat) (f : Addr) (fd : FuncData) (ps : List Str) (sp : List V → Hp → VK → Addr × Obj → Prop) : Prop where
  run : ∀ (A : Around) (outer : List Env) (s : Shared) (H : Hp) (args : Args) (us : List Value) (vs : List V) (Q : VK) (p : Addr × Obj), A.guards = some [] → L2H.RoomH k A → L2H.Hot1 A p → L2H.PinOk outer H s p → Env0 G.prog G.w G.K G.mg G.base A outer s H → BindsTo s fd args (ps.zip us) → Vals vs us → sp vs H Q p →
    codeAny (model G.prog G.w) A (.call (.ref f) args) (CR CX0 outer G.prog G.w H s Q E0) s
structure FzH (pr : Nat → Bool) (G : Gz) (k : Nat) (x : Str) (n : Nat) (φ : PhiH) : Prop where
  len : ∀ a dd c ds s d s', φ a dd c ds s = .ok d s' → ds.length = n
  ex : ∃ (f : Addr) (fd : FuncData) (ps : List Str), G.mg x = some (.ref f) ∧ keepIn G.K (.ref f) = true ∧ Binds G.K fd ps [] ∧ ps.length = n ∧ FnHZ G k f fd ps (spH pr G n φ)
theorem FzH.mono {φ : PhiH} {j : Nat} (F : FzH pr G j x n φ) (h : j ≤ k) : FzH pr G k x n φ := by
  obtain ⟨f, fd, ps, h1, h2, h3, h4, h5⟩ := F.ex
  exact ⟨F.len, f, fd, ps, h1, h2, h3, h4, ⟨fun A outer s H args us vs Q p hg hr => h5.run A outer s H args us vs Q p hg (hr.mono h)⟩⟩
end
end Z

/-! # try: .. except .. as e: .. -/
namespace Z
open PySem PySem.Spec PyProof.Rows L2 PySem.W
variable {pr : Nat → Bool}

abbrev endsN (D : Ends) (i : Nat) : Ends := { nx := fun σ' H' => D.nx (σ'.set i none) H', rt := D.rt, bk := fun σ' H' => D.bk (σ'.set i none) H', ct := fun σ' H' => D.ct (σ'.set i none) H' }
/-- what 'except (C1, C2) as n' wishes of an error of the body -/
def wAs2 (K : PySem.W.Frag) (c1 c2 : Value) (i : Nat) (ts : Addr → Value → Option Addr → TS) (D : Ends) : WX := fun cls d σ H =>
  exmAny K cls [c1, c2] = some true ∧ ∀ a, H a = none → ts a cls d (endsN D i) (σ.set i (some (.ref a))) H
section
variable {X : Cx} {x1 x2 n : Str} {c1 c2 : Value} {i kk : Nat} {body suite : List Stmt} {b0 : Stmt} {p1 p2 tp pos pos' : Pos} {tb : WX → TS} {ts : Addr → Value → Option Addr → TS}
end

/-! ### by data -/
open Classical in
/-- the same, whatever the addresses -/
noncomputable def allX {α : Type} (F : Addr → Addr → Rs α) : Rs α := if h : ∃ r, ∀ a dd, F a dd = r then h.choose else .bad
def unC (i : Nat) : Ct → Ct
  | .next e => .next (e.set i none)
  | .ret d => .ret d
  | .brk e => .brk (e.set i none)
  | .cont e => .cont (e.set i none)
def unR (i : Nat) (r : Rs Ct) : Rs Ct := r.bind fun c s => .ok (unC i c) s
noncomputable def fTry (ct : Nat → Bool) (fb : Fn Ct) (i : Nat) (gs : Addr → Addr → Nat → Fn Ct) : Fn Ct := fun env s => match fb env s with
  | .ok c s1 => .ok c s1
  | .exc (.xn _ _ c fs) s1 => Rs.iff (decide (c < 9) && ct c) (allX fun a dd => unR i (gs a dd c (env.set i (some (.xn a dd c fs))) s1))
  | _ => .bad
section
variable {G : Gz} {bs : List Str} {k : Nat} {X : Cx} {N : List Str} {nm : List (Str × NameKind)} {n : Str} {i kk : Nat} {body suite : List Stmt} {b0 : Stmt} {p1 p2 tp pos pos' np : Pos} {fb : Fn Ct} {gs : Addr → Addr → Nat → Fn Ct} {x : Str}
/-- the suite's reading, from the error's class and dict -/
def tSu (pr : Nat → Bool) (G : Gz) (K : PySem.W.Frag) (A : Nat → Addr) (gs : Addr → Addr → Nat → Fn Ct) : Addr → Value → Option Addr → TS := fun a cls d D σ H => ∃ (c : Nat) (dd : Addr), c < 9 ∧ pr c = true ∧ cls = .ref (A c) ∧ d = some dd ∧ tOfS K (gs a dd c) D σ H
theorem PostC.un {K : PySem.W.Frag} {B : Lo} {H : Hp} {s' : Sto} {D : Ends} {i : Nat} : ∀ {c : Ct}, PostC K B H s' D (unC i c) → PostC K B H s' (endsN D i) c
  | .next e, h => fun B' H' σ' x ee S r => h B' H' _ x ee S (r.unset i)
  | .ret d, h => h
  | .brk e, h => fun B' H' σ' x ee S r => h B' H' _ x ee S (r.unset i)
  | .cont e, h => fun B' H' σ' x ee S r => h B' H' _ x ee S (r.unset i)
end
/-- a slice of what may raise: a tuple -/
def gSlS (x : Dv) (lo hi : Option Int) (s : Sto) : Rs Dv := match x with
  | .tup ds => .ok (.tup (cutD ds lo hi)) s
  | _ => .bad
section
variable {X : Cx} {W : WX} {e : Expr} {fa : Fn Dv} {pos p2 : Pos}
end
end Z

/-! # sum(xs, start=n); isinstance(x, (T1, T2)); range(a, b, -1); defs that call themselves -/
namespace Z
open PySem PySem.Spec PyProof.Rows L2

/-! ### sum(xs, start=n) -/
section
variable {prog : Program} {w : World} {A : Around} {E : Value → Shared → Prop} {s : Shared}
end
def gSumS (i : Dv) (x : Dv) (s : Sto) : Rs Dv := match i, (seqOf s x).bind intsOf with
  | .int i, some ns => Rs.iff (isL x s) (.ok (.int (i + ns.sum)) s)
  | _, _ => .bad
def fSumS (f g : Fn Dv) : Fn Dv := fun env s => (f env s).bind fun x s1 => (g env s1).bind fun i s2 => gSumS i x s2
section
variable {G : Gz} {bs : List Str} {k : Nat} {X : Cx} {N : List Str} {nm : List (Str × NameKind)} {ow : Str → Bool} {e e2 tg : Expr} {fa fb : Fn Dv} {fs : Fn (List Dv)} {pos p p2 kpos : Pos} {q : Bool}
/-! ### isinstance(x, (T1, T2)) -/
def isiAny (t : String) (Ts : List String) : Bool := Ts.any fun T => isiB t T
def fIsiT (Ts : List String) (f : Fn Dv) : Fn Dv := fun env s => (f env s).bind fun x s1 => Rs.iff (okX x) (.ok (.bl (isiAny (tyD x s1) Ts)) s1)
/-! ### range(a, b, -1) -/
def rngDn (lo : Int) (n : Nat) : List Dv := (List.range n).map fun (i : Nat) => Dv.int (lo - (i : Int))
def fRngD (f : Fn (List Dv)) : Fn Src := fun env s => (f env s).bind fun ds s1 => match ds with | [.int i, .int j, .int c] => Rs.iff (inRng i && inRng j && c == -1) (.ok (rngDn i (i - j).toNat, noChk) s1) | _ => .bad
end

/-! ### a def that calls itself -/
def recZ (n m : Nat) (body : Phi → Fn Ct) : Nat → Phi
  | 0 => fun _ _ => .bad
  | j + 1 => fDef n m (body (recZ n m body j))
theorem fz_rec {G : Gz} {bs : List Str} {k0 n : Nat} {x qual : Str} {st : Stmt} {f : Addr} {fd : FuncData} {N ps : List Str} {nm : List (Str × NameKind)} {body : Phi → Fn Ct} (F : Fun G.K x qual st f fd) (hm : G.mg x = some (.ref f)) (hb : Binds G.K fd ps []) (hn : ps.length = n) (S : FnScope N ps (defScope st)) (hnm : (defScope st).names = nm)
    (hbl : ∀ y ∈ bs, G.mg y = none) (hbody : ∀ (κ : Nat) (ψ : Phi), k0 ≤ κ → Fz G κ x n ψ → ∀ X : Cx, Cz G bs κ X N nm (fun _ => true) → ZB X (defBody st) (body ψ)) : ∀ j : Nat, Fz G (k0 + j) x n (recZ n N.length body j)
  | 0 => ⟨(fun ds s d s' (h : Rs.bad = Rs.ok d s') => nomatch h), f, fd, ps, hm, F.kp, hb, hn, ⟨fun A outer s H args us vs Q hg hr e0 hbd r hsp => by
      obtain ⟨_, _, _, _, _, _, _, _, h, _⟩ := hsp
      exact nomatch (show Rs.bad = Rs.ok _ _ from h)⟩⟩
  | j + 1 => fz_mk F hm hb hn S hnm hbl fun X c => hbody (k0 + j) _ (Nat.le_add_right _ _) (fz_rec F hm hb hn S hnm hbl hbody j) X c
/-- .. that may raise -/
def recX (n m : Nat) (body : Phi → Fn Ct) : Nat → Phi
  | 0 => fun _ _ => .bad
  | j + 1 => fDefX n m (body (recX n m body j))
end Z

namespace Z
open PySem PySem.Spec PyProof.Rows L2

/-! ### a, b, .. = a list -/
def gTpL (n : Nat) (h : List Dv → Fn En) : Dv → Fn En := fun d env s => match seqOf s d with
  | some ds => Rs.iff (isL d s && ds.length == n) (h ds env s)
  | none => .bad
section
variable {G : Gz} {bs : List Str} {k : Nat} {X : Cx} {N : List Str} {nm : List (Str × NameKind)} {ow : Str → Bool} {pos : Pos} {qb : Bool}
end
end Z

namespace Z
open PySem PySem.Spec PyProof.Rows L2

/-! ### data in a list of data -/
def gInD (x y : Dv) (s : Sto) : Rs Dv := match pyOf s x, pyOf s y with
  | some p, some (.list ps) => Rs.iff (SeqAt.shaped p && SeqAt.shaped (.list ps)) (.ok (.bl (ps.any fun z => PyData.eqv z p)) s)
  | _, _ => .bad
def gNotInD := gNot gInD
section
variable {G : Gz} {bs : List Str} {k : Nat} {X : Cx} {N : List Str} {nm : List (Str × NameKind)} {ow : Str → Bool} {a b c e : Expr} {fa fb fc : Fn Dv} {pos : Pos}
/-- a if t else b, where a and b may raise -/
def fIfX (t : Fn Bool) (f g : Fn Dv) : Fn Dv := fun env s => (t env s).sure.bind fun b s1 => if b = true then f env s1 else g env s1
end
end Z

namespace HT
open PySem PySem.Spec PyProof.Rows
theorem fm_congr {α β : Type} {f g : α → Option β} : ∀ {l : List α}, (∀ a ∈ l, f a = g a) → l.filterMap f = l.filterMap g
  | [], _ => rfl
  | a :: l, h => by rw [List.filterMap_cons, List.filterMap_cons, h a List.mem_cons_self, fm_congr fun b hb => h b (List.mem_cons_of_mem _ hb)]
section
variable {prog : Program} {w : World} {A : Around} {E : Value → Shared → Prop} {s : Shared}
theorem backPlaces (n : Nat) : Builtin.Slice.slicePlaces ((n : Int) - 1) (-1) (-1) = n := by
  unfold Builtin.Slice.slicePlaces
  rw [if_neg (by decide)]
  by_cases h : n = 0
  · subst h; rfl
  · rw [if_pos (by omega)]
    have : (((n : Int) - 1 - -1 - 1) / (- -1)) = (n : Int) - 1 := by
      rw [show (- -1 : Int) = 1 by decide, Int.ediv_one]; omega
    rw [this]; omega
theorem sliceApplied_back {sl : Addr} {vl vu vs : Value} {n : Nat} {Q : Int × Int × Nat → Shared → Prop} (hs : s.heap.IsSliceOf sl vl vu vs) (pl : IsPart vl none) (pu : IsPart vu none) (ps : IsPart vs (some (-1)))
    (h : Q ((n : Int) - 1, -1, n) s) : wpAny (model prog w) A (Builtin.Slice.sliceApplied (.ref sl) (pure (n : Int))) Q E s := by
  obtain ⟨os, hos, hcs, hds⟩ := id hs
  unfold Builtin.Slice.sliceApplied Builtin.Slice.sliceFields
  refine wpAny_bind (wpAny_bind (wpAny_field hos hds (x := vl) rfl (wpAny_bind (wpAny_field hos hds (x := vu) rfl (wpAny_bind (wpAny_field hos hds (x := vs) rfl (wpAny_pure ?_)))))))
  refine wpAny_bind (slicePart_ ps ?_)
  show wpAny _ _ (if ((-1 : Int) == 0) = true then _ else _) _ _ s
  rw [if_neg (by decide)]
  refine wpAny_bind (slicePart_ pl (wpAny_bind (slicePart_ pu (wpAny_bind (wpAny_pure ?_)))))
  show wpAny _ _ (pure ((n : Int) - 1, (-1 : Int), Builtin.Slice.slicePlaces ((n : Int) - 1) (-1) (-1))) _ _ s
  rw [backPlaces]
  exact wpAny_pure h
theorem pick_back (xs : Array Value) : ((List.range xs.size).filterMap fun (m : Nat) => xs[((xs.size : Int) - 1 + (m : Int) * (-1)).toNat]?) = xs.toList.reverse := by
  have e : ((List.range xs.size).filterMap fun (m : Nat) => xs[((xs.size : Int) - 1 + (m : Int) * (-1)).toNat]?) = ((List.range xs.size).map fun k => xs.size - 1 - k).filterMap (xs[·]?) := by
    rw [List.filterMap_map]
    refine fm_congr fun m hm => ?_
    have := List.mem_range.mp hm
    show _ = xs[xs.size - 1 - m]?
    congr 1
    omega
  rw [e, PySem.W.krv_range, List.filterMap_reverse, PySem.W.krv_all]
theorem getItem_tuple_back {t sl : Addr} {items : Array Value} {vl vu vs : Value} {Q : Value → Shared → Prop} (ht : IsTup s.heap t items) (hs : s.heap.IsSliceOf sl vl vu vs) (pl : IsPart vl none) (pu : IsPart vu none) (ps : IsPart vs (some (-1)))
    (h : Q (.ref s.heap.objs.size) { s with heap := s.heap.push { cls := .type "tuple", data := .seq items.toList.reverse.toArray } }) (hsz : items.size ≤ sizeLine) : wpAny (model prog w) A (getItem (.ref t) (.ref sl)) Q E s := by
  have htake : sizeOk (.seq items.toList.reverse.toArray) := by
    show items.toList.reverse.toArray.size ≤ sizeLine
    simpa using hsz
  obtain ⟨os, hos, hcs, hds⟩ := id hs
  have hTs : s.TypeIs (.ref sl) "slice" := ⟨os, hos, hcs⟩
  unfold getItem
  try with_reducible refine wpAny_holding ?_
  first | refine wpAny_bind (wpAny_pure ?_) | skip
  refine wpAny_bind (wpAny_sequenceKey ht.typeIs (by decide) ?_)
  refine wpAny_bind (wpAny_callSpecial?_slot (name := Str.ofString "__getitem__") ht.typeIs PyProof.Rows.slot_tuple_getitem
    (wpAny_call_entry PyProof.Rows.slot_tuple_getitem ht.typeIs entry_tuple_getitem ?_ (args_tuple_getitem _ _)))
  show wpAny _ _ (Builtin.Tuple.tupleItemsOf (.ref t) >>= _) _ _ s
  refine wpAny_bind (tupleItemsOf_ ht ?_)
  refine wpAny_bind (wpAny_typeOf hTs ?_)
  rw [if_pos (by decide)]
  refine wpAny_bind (sliceApplied_back hs pl pu ps ?_)
  have hno : ¬ ((((items.size : Int) - 1 == 0) && (-1 : Int) == 1 && items.size == items.size) = true) := by simp
  show wpAny _ _ (if (((items.size : Int) - 1 == 0) && (-1 : Int) == 1 && items.size == items.size) = true then _ else _) _ _ s
  rw [if_neg hno, pick_back]
  first
    | exact wpAny_bind (m := Builtin.Tuple.tupleExact _) (wpAny_newObj_type (wpAny_pure ⟨_, rfl, wpAny_pure h⟩) htake)
    | exact wpAny_bind (m := Builtin.Tuple.tupleExact _) (wpAny_newObj_type (wpAny_bind (wpAny_pure (wpAny_pure ⟨_, rfl, wpAny_pure h⟩))) htake)
    | exact wpAny_bind (wpAny_bind (m := Builtin.Tuple.tupleExact _) (wpAny_newObj_type (wpAny_pure (wpAny_pure ⟨_, rfl, wpAny_pure h⟩)) htake))
    | exact wpAny_bind (wpAny_bind (m := Builtin.Tuple.tupleExact _) (wpAny_newObj_type (wpAny_pure ⟨_, rfl, wpAny_pure h⟩) htake))
end
end HT
namespace Z
open PySem PySem.Spec PyProof.Rows L2
/-! ### t[::-1] of a tuple -/
def tRevT (K : PySem.W.Frag) (te : TE) : TE := fun σ H Q => te σ H fun x H1 => ∃ a xs, x = .ref a ∧ SqT K H1 a xs ∧ ∀ p o, H1 p = none → o.dict = none → Q (.ref p) (upd H1 p (.frz o (.tup xs.reverse)))
section
variable {X : Cx}
theorem pe_revT {e : Expr} {te : TE} {k : Nat} {p1 p2 p3 pos : Pos} (he : PE X e te) : PE X (.Subscript e (.Slice none none (some (.UnaryOp .USub (.Constant (.int 1) k p1) p2)) p3) pos) (tRevT X.K te) := by
  refine ⟨fun pins s σ H Q I h => ?_⟩
  refine Subscript_ (thn (he.run pins s σ H _ I h) fun v s1 ⟨x, H1, I1, r1, q1⟩ => ?_)
  obtain ⟨a, xs, ex, hx, q⟩ := q1
  subst ex
  cases r1
  have hst : PO X (some (.UnaryOp .USub (.Constant (.int 1) k p1) p2)) (tPart (tUn (rU fun i => .int (-i)) (tC (.int 1)))) := po_some (pe_un un_neg pe_int)
  refine wpAny_Slice (thn (po_none.run pins s1 σ H1 (fun o H2 => o = none ∧ H2 = H1) I1 ⟨rfl, rfl⟩) fun vl s2 ⟨l, H2, I2, pl, el, e2⟩ => ?_)
  subst el e2
  refine thn (po_none.run pins s2 σ H2 (fun o H3 => o = none ∧ H3 = H2) I2 ⟨rfl, rfl⟩) fun vu s3 ⟨u, H3, I3, pu, eu, e3⟩ => ?_
  subst eu e3
  refine thn (hst.run pins s3 σ H3 (fun o H4 => o = some (-1) ∧ H4 = H3) I3 ⟨1, rfl, -1, rfl, rfl, rfl⟩) fun vs s4 ⟨o, H4, I4, ps, eo, e4⟩ => ?_
  subst eo e4
  have I5 : Inv X pins σ H4 { s4 with heap := s4.heap.push { cls := .type "slice", data := .fields #[vl, vu, vs] } } := I4.kept (t' := s4.toks) fun b ob q => Heap.get?_push_of_some _ q
  obtain ⟨its, r, ht, hz⟩ := I5.tuple hx
  have hlen := r.length
  show wpAny (model X.prog X.w) X.A (subscriptTail e (.Slice none none (some (.UnaryOp .USub (.Constant (.int 1) k p1) p2)) p3) (.ref a) (.ref s4.heap.objs.size)) (EP X pins σ Q) X.xe { s4 with heap := s4.heap.push { cls := .type "slice", data := .fields #[vl, vu, vs] } }
  refine tail_any (ops := [.ref a, .ref s4.heap.objs.size]) ht.typeIs (PyProof.Rows.slot_tuple_getitem.lookup) ?_ (by with_unfolding_all rfl)
  refine HT.getItem_tuple_back ht (Heap.IsSliceOf.new _ vl vu vs) pl pu ps ?_ (by rw [List.size_toArray]; omega)
  exact tupK_new (t' := s4.toks) I5 (by rw [List.length_reverse]; exact hz) (by simpa using r.reverse) q
end
def fRevT (f : Fn Dv) : Fn Dv := fun env s => (f env s).bind fun x s1 => match x with | .tup ds => .ok (.tup ds.reverse) s1 | _ => .bad
section
variable {X : Cx} {e : Expr} {fa : Fn Dv} {pos : Pos}
theorem rps_rev {K : PySem.W.Frag} {B : Lo} {H : Hp} : ∀ {ds : List Dv} {xs : List V}, Rps K B H ds xs → Rps K B H ds.reverse xs.reverse
  | _, _, .nil => .nil
  | _, _, .cons r rr => by
    rw [List.reverse_cons, List.reverse_cons]
    exact Rps.append (rps_rev rr) (.cons r .nil)
theorem z_revT {j : Nat} {p1 p2 p3 : Pos} (he : ZE X e fa) : ZE X (.Subscript e (.Slice none none (some (.UnaryOp .USub (.Constant (.int 1) j p1) p2)) p3) pos) (fRevT fa) := by
  refine pe_mono (pe_revT he) fun σ H Q q => ?_
  obtain ⟨B, env, s, d, s', hE, hS, hf, hQ⟩ := q
  obtain ⟨x, s1, h1, hf⟩ := Rs.bind_ok hf
  refine ⟨B, env, s, _, _, hE, hS, h1, fun B1 H1 v x1 e1 S1 r1 => ?_⟩
  cases x with
  | tup ds =>
    cases hf
    cases r1 with
    | tup h4 h5 => exact ⟨_, _, rfl, h4.sq, fun p o hp hd => new_tup S1 (rps_rev h5) (fun B2 H2 v x2 e2 S2 r2 => hQ B2 H2 v (x1.trans x2) (e2.trans e1) S2 r2) hp hd⟩
  | _ => cases hf
end
end Z

namespace Z
open PySem PySem.Spec PyProof.Rows L2

/-! ### a def of no parameters is called -/
section
variable {G : Gz} {bs : List Str} {k : Nat} {X : Cx} {N : List Str} {nm : List (Str × NameKind)} {ow : Str → Bool} {x : Str} {p pos : Pos} {φ : Phi}
end
end Z

namespace Z
open PySem PySem.Spec PyProof.Rows L2

/-! ### len(set(xs)), xs texts -/
def dstS (σ : List Str) (v : Str) : List Str := if σ.any (· == v) = true then σ else σ ++ [v]
/-- the unlike ones, in the order met -/
def dst (xs : List Str) : List Str := xs.foldl dstS []
theorem dst_snoc (xs : List Str) (v : Str) : dst (xs ++ [v]) = dstS (dst xs) v := by unfold dst; rw [List.foldl_append]; rfl
theorem dstS_any (σ : List Str) (v k : Str) : (dstS σ v).any (· == k) = (σ.any (· == k) || decide (k = v)) := by
  unfold dstS
  split
  · rename_i h
    by_cases e : k = v
    · rw [e, h]; simp
    · simp [e]
  · rw [List.any_append]
    by_cases e : k = v
    · simp [e]
    · have : (v == k) = false := beq_eq_false_iff_ne.mpr fun z => e z.symm
      simp [this, e]
theorem dstS_len (σ : List Str) (v : Str) : (dstS σ v).length = if σ.any (· == v) = true then σ.length else σ.length + 1 := by
  unfold dstS; split <;> simp
theorem dst_le : ∀ xs : List Str, (dst xs).length ≤ xs.length := fun xs => by
  suffices h : ∀ (ys σ : List Str), (ys.foldl dstS σ).length ≤ σ.length + ys.length from by simpa [dst] using h xs []
  intro ys
  induction ys with
  | nil => intro σ; simp
  | cons y r ih =>
    intro σ
    have h1 := ih (dstS σ y)
    have h2 := dstS_len σ y
    rw [List.foldl_cons, List.length_cons]
    split at h2 <;> omega
theorem strs_get : ∀ {us : List Value} {xs : List Str}, StrsAre us xs → ∀ {i : Nat} {v : Value}, us[i]? = some v → ∃ x t, xs[i]? = some x ∧ v = .str x t
  | _, _, .nil, i, v, e => by simp at e
  | _, _, .cons x t r, 0, v, e => by simp at e; exact ⟨x, t, rfl, e.symm⟩
  | _, _, .cons x t r, i + 1, v, e => by simpa using strs_get r (i := i) (v := v) (by simpa using e)
section
variable {P : Program} {W : World} {C : Around} {Rr : Result → Shared → Prop} {J S : Addr} {fp wr : List Addr} {GG : Array GenState → Array GenState → Prop} {Pv : Nat → Value → Prop} {St : Nat → Shared → Prop} {xs : List Str}
/-- the walk that puts each text in -/
theorem set_put (w : WalksS P W C.in1 J fp wr GG xs.length Pv St) (hS : S ∉ fp) (hv : ∀ i v, Pv i v → ∃ x t, xs[i]? = some x ∧ v = .str x t) (hb : xs.length + 1 < scanBound) (m : Nat) :
    ∀ (i : Nat) (s : Shared), xs.length = i + m → St i s → s.heap.SetOf (PySem.strKind P W) S (fun k => (dst (xs.take i)).any (· == k)) (dst (xs.take i)).length →
      (∀ s', Moved (S :: wr) GG s s' → s'.heap.SetOf (PySem.strKind P W) S (fun k => (dst xs).any (· == k)) (dst xs).length → Rr (.ok (.ret .none)) s') →
      codeAny (model P W) C (.builtin "set.update.loop" ⟨[.ref S, .ref J], []⟩) Rr s := by
  have nS : S ∉ wr := fun h => hS (w.sub _ h)
  have up : ∀ b ∈ wr, b ∈ S :: wr := fun _ h => .tail _ h
  induction m with
  | zero =>
    intro i s hi hst hs hR
    have hi : i = xs.length := by omega
    subst hi
    rw [List.take_length] at hs
    refine codeAny_builtin PyProof.Rows.F.entry_set_update_loop ?_
    rw [Around.under_plainId PyProof.Rows.F.plain_set_update_loop _]
    show wpAny _ C.in1 (pyNext (.ref J) >>= _) _ _ s
    refine wpAny_bind (w.done s _ _ hst fun s' hm => ?_)
    refine (wpAny_pure ?_ : wpAny _ C.in1 (ret Value.none) _ _ s')
    obtain ⟨o, es, ep, t, ho, r⟩ := hs
    exact hR s' (hm.mono up) ⟨o, es, ep, t, hm.heap S _ nS ho, r⟩
  | succ m ih =>
    intro i s hi hst hs hR
    have hlt : i < xs.length := by omega
    refine codeAny_builtin PyProof.Rows.F.entry_set_update_loop ?_
    rw [Around.under_plainId PyProof.Rows.F.plain_set_update_loop _]
    show wpAny _ C.in1 (pyNext (.ref J) >>= _) _ _ s
    refine wpAny_bind (w.item i s _ _ hlt hst fun v s1 hp hst1 hm => ?_)
    obtain ⟨x, t, hx, rfl⟩ := hv i v hp
    have hs1 : s1.heap.SetOf (PySem.strKind P W) S (fun k => (dst (xs.take i)).any (· == k)) (dst (xs.take i)).length := by
      obtain ⟨o, es, ep, tb, ho, r⟩ := hs
      exact ⟨o, es, ep, tb, hm.heap S _ nS ho, r⟩
    show wpAny _ C.in1 (holding [Value.str x t] (setAdd S (.str x t)) >>= _) _ _ s1
    refine wpAny_bind (wpAny_holding ?_)
    unfold setAdd
    refine wpAny_holding (wpAny_bind ((PySem.strKind P W).pyHash (k := x) (strKind_is _ _ _ _) ?_))
    have hl : (dst (xs.take i)).length + 1 < scanBound := by
      have h1 := dst_le (xs.take i)
      rw [List.length_take] at h1
      omega
    refine wpAny_setAddHashed_of (knd := PySem.strKind P W) (s := { s1 with toks := s1.toks + 1 }) (strKind_is _ _ _ _) rfl hs1 hl fun h2 sb hs2 => ?_
    have e2 : dst (xs.take (i + 1)) = dstS (dst (xs.take i)) x := by
      rw [List.take_add_one, hx]
      exact dst_snoc _ _
    have hs3 : h2.SetOf (PySem.strKind P W) S (fun k => (dst (xs.take (i + 1))).any (· == k)) (dst (xs.take (i + 1))).length := by
      rw [e2]
      exact SetOf_congr hs2 (fun k => (dstS_any _ _ _).symm) (dstS_len _ _).symm
    have kp : ∀ b, b ≠ S → h2.get? b = s1.heap.get? b := fun b h => sb.2 b h
    refine wpAny_pure ⟨plainId_quiet PyProof.Rows.F.plain_set_update_loop _, ih (i + 1) _ (by omega) (w.frame _ s1 _ _ hst1 (Nat.le_succ _) fun b hb o e => (kp b fun z => hS (z ▸ hb)).trans e) hs3 fun s4 hm4 hs4 => hR s4 ?_ hs4⟩
    exact Moved.trans w.gtrans ((hm.mono up).then_heap (Nat.le_succ _) fun b o hb e => (kp b fun z => hb (z ▸ List.mem_cons_self)).trans e) hm4
end
/-- set(x), x a list of texts -/
theorem set_ofL {P : Program} {W : World} {C : Around} {E : Value → Shared → Prop} {s : Shared} {l : Addr} {its : Array Value} {xs : List Str} {Q : Value → Shared → Prop} (nh : C.handled = none) (pl : s.heap.IsList l its) (rs : StrsAre its.toList xs) (hb : xs.length + 1 < scanBound)
    (fin : ∀ (g : Heap) (tk : Nat), g.SetOf (PySem.strKind P W) s.heap.objs.size (fun k => (dst xs).any (· == k)) (dst xs).length → (∀ b o, b < s.heap.objs.size → s.heap.get? b = some o → g.get? b = some o) → Q (.ref s.heap.objs.size) { s with heap := g, toks := tk }) :
    wpAny (model P W) C (call (.type "set") [.ref l]) Q E s := by
  obtain ⟨_, _, f1⟩ := PySem.F.called_set.mro
  have f2 := PySem.F.called_set.made; have f3 := PySem.F.called_set.sub; have f4 := PySem.F.called_set.notType; have f5 := PySem.F.called_set.canCreate; have f6 := PySem.F.typeCall_set_1 (.ref l)
  refine wpAny_call (codeAny_of_tree ?_); show wpAny _ _ (callAny (.type "set") ⟨[.ref l], []⟩) _ _ _
  refine wpAny_pure ⟨Code.quiet_builtin _ (by decide +kernel), codeAny_builtin PySem.F.entry_type_call ?_⟩ <;> skip
  rw [Around.under_plain (weight_type_call_type "set" [.ref l] []) rfl]; repeat (any_goals (first | assumption | wp_step))
  refine codeAny_mono (code_set_new_1 (.ref l) (E := E) (Q₁ := fun v s1 => ∃ b : Bool, v = .ref s.heap.objs.size ∧ s1 = { s with heap := s.heap.push { cls := .type "set", dict := none, data := .set #[] 0 (.fresh 0 0 b) } }) fun b => ⟨b, rfl, rfl⟩) fun r s1 hr => ?_
  cases r with
  | error _ => exact hr
  | ok y =>
  cases y with
  | ret v =>
    obtain ⟨b, rfl, rfl⟩ := hr
    have gS : (s.heap.push { cls := .type "set", dict := none, data := .set #[] 0 (.fresh 0 0 b) }).get? s.heap.objs.size = some { cls := .type "set", dict := none, data := .set #[] 0 (.fresh 0 0 b) } := Heap.get?_push_size _ rfl
    have tS : Shared.TypeIs { s with heap := s.heap.push { cls := .type "set", dict := none, data := .set #[] 0 (.fresh 0 0 b) } } (.ref s.heap.objs.size) "set" := ⟨_, gS, rfl⟩
    have f7 := PySem.F.called_set.init.lookup; have f8 := PySem.F.called_set.init.bind (.ref s.heap.objs.size); repeat (any_goals (first | assumption | wp_step))
    refine codeAny_mono (codeAny_call_builtin (R := wants (fun r s2 => r = .none ∧ ∃ g tk, s2 = { s with heap := g, toks := tk } ∧ g.SetOf (PySem.strKind P W) s.heap.objs.size (fun k => (dst xs).any (· == k)) (dst xs).length ∧ ∀ b o, b < s.heap.objs.size → s.heap.get? b = some o → g.get? b = some o) E)
      PySem.F.called_set.init.plain PySem.F.entry_set_init (check_set_init_1 tS ?_)) fun r2 s2 hr2 => ?_
    · obtain ⟨⟨oc, od, odt, os⟩, hol, hc, nl, hd⟩ := pl
      dsimp only at hc hd; subst hc hd
      have gl : (s.heap.push { cls := .type "set", dict := none, data := .set #[] 0 (.fresh 0 0 b) }).get? l = some { cls := .type "list", dict := od, data := .seq its nl, slots := os } := Heap.get?_push_of_some _ hol
      have f9 := PySem.F.sub_list_set; have f10 := PySem.F.sub_list_frozenset; have f11 : (Value.type "list" == Value.type "dict") = false := by decide
      have pl1 : (s.heap.push { cls := .type "set", dict := none, data := .set #[] 0 (.fresh 0 0 b) }).IsList l its := ⟨_, gl, rfl, nl, rfl⟩
      unfold Builtin.«set.__init__» noKeywords Builtin.Frozenset.updateFrom; generalize eI : pyIter = it; wp_walk; subst eI
      refine wpAny_pyIter_list pl1 (wpAny_bind (wpAny_runValue ?_))
      have lt := Heap.lt_size hol
      have nh3 : C.in1.in1.in1.handled = none := by simp [nh]
      have n1 : l ≠ (s.heap.push { cls := .type "set", dict := none, data := .set #[] 0 (.fresh 0 0 b) }).objs.size := by rw [Heap.size_push]; exact Nat.ne_of_lt (Nat.lt_succ_of_lt lt)
      have n2 : s.heap.objs.size ∉ [(s.heap.push { cls := .type "set", dict := none, data := .set #[] 0 (.fresh 0 0 b) }).objs.size, l] := by
        rw [Heap.size_push]; simp only [List.mem_cons, List.not_mem_nil, or_false]; exact not_or.mpr ⟨Nat.ne_of_lt (Nat.lt_succ_self _), Nat.ne_of_gt lt⟩
      have hz : xs.length = its.size := by rw [← StrsAre.len_eq rs, Array.length_toList]
      have wk := (Walks.list (prog := P) (w := W) nh3 (s.heap.push { cls := .type "set", dict := none, data := .set #[] 0 (.fresh 0 0 b) }).objs.size l n1 its).toS
      rw [← hz] at wk
      refine set_put wk n2 (fun i v hv => strs_get rs (by rw [Array.getElem?_toList]; exact hv)) hb xs.length 0 _ (by omega) ⟨⟨_, Heap.get?_push_size _ rfl, rfl, rfl⟩, pl1.push _⟩ ?_ fun s3 hm h3 => ?_
      · refine SetOf_congr ((setObjOf_fresh (knd := PySem.strKind P W) b).setOf (Heap.get?_push_of_some _ gS) (by unfold scanBound; omega)) (fun _ => rfl) rfl
      · obtain ⟨g, _, _, tk, _⟩ := s3
        obtain rfl := hm.gens; obtain rfl := hm.drawn; obtain rfl := hm.os
        refine wpAny_pure (?_ : wpAny _ _ (ret Value.none) _ _ _)
        refine wpAny_pure ⟨rfl, g, tk, rfl, h3, fun b o hb e => hm.heap b o ?_ (Heap.get?_push_of_some _ (Heap.get?_push_of_some _ e))⟩
        rw [Heap.size_push]; simp only [List.mem_cons, List.not_mem_nil, or_false]; exact not_or.mpr ⟨Nat.ne_of_lt hb, Nat.ne_of_lt (Nat.lt_succ_of_lt hb)⟩
    · cases r2 with
      | error _ => exact hr2
      | ok y =>
        cases y with
        | ret v =>
          obtain ⟨rfl, g, tk, rfl, h3, h4⟩ := hr2
          repeat (any_goals (first | assumption | wp_step))
          exact fin g tk h3 h4
        | _ => exact hr2.elim
  | _ => exact hr.elim
/-- set(x), x a tuple of texts -/
theorem set_ofT {P : Program} {W : World} {C : Around} {E : Value → Shared → Prop} {s : Shared} {l : Addr} {its : Array Value} {xs : List Str} {Q : Value → Shared → Prop} (nh : C.handled = none) (pl : s.heap.IsTuple l its) (rs : StrsAre its.toList xs) (hb : xs.length + 1 < scanBound)
    (fin : ∀ (g : Heap) (tk : Nat), g.SetOf (PySem.strKind P W) s.heap.objs.size (fun k => (dst xs).any (· == k)) (dst xs).length → (∀ b o, b < s.heap.objs.size → s.heap.get? b = some o → g.get? b = some o) → Q (.ref s.heap.objs.size) { s with heap := g, toks := tk }) :
    wpAny (model P W) C (call (.type "set") [.ref l]) Q E s := by
  obtain ⟨_, _, f1⟩ := PySem.F.called_set.mro
  have f2 := PySem.F.called_set.made; have f3 := PySem.F.called_set.sub; have f4 := PySem.F.called_set.notType; have f5 := PySem.F.called_set.canCreate; have f6 := PySem.F.typeCall_set_1 (.ref l)
  refine wpAny_call (codeAny_of_tree ?_); show wpAny _ _ (callAny (.type "set") ⟨[.ref l], []⟩) _ _ _
  refine wpAny_pure ⟨Code.quiet_builtin _ (by decide +kernel), codeAny_builtin PySem.F.entry_type_call ?_⟩ <;> skip
  rw [Around.under_plain (weight_type_call_type "set" [.ref l] []) rfl]; repeat (any_goals (first | assumption | wp_step))
  refine codeAny_mono (code_set_new_1 (.ref l) (E := E) (Q₁ := fun v s1 => ∃ b : Bool, v = .ref s.heap.objs.size ∧ s1 = { s with heap := s.heap.push { cls := .type "set", dict := none, data := .set #[] 0 (.fresh 0 0 b) } }) fun b => ⟨b, rfl, rfl⟩) fun r s1 hr => ?_
  cases r with
  | error _ => exact hr
  | ok y =>
  cases y with
  | ret v =>
    obtain ⟨b, rfl, rfl⟩ := hr
    have gS : (s.heap.push { cls := .type "set", dict := none, data := .set #[] 0 (.fresh 0 0 b) }).get? s.heap.objs.size = some { cls := .type "set", dict := none, data := .set #[] 0 (.fresh 0 0 b) } := Heap.get?_push_size _ rfl
    have tS : Shared.TypeIs { s with heap := s.heap.push { cls := .type "set", dict := none, data := .set #[] 0 (.fresh 0 0 b) } } (.ref s.heap.objs.size) "set" := ⟨_, gS, rfl⟩
    have f7 := PySem.F.called_set.init.lookup; have f8 := PySem.F.called_set.init.bind (.ref s.heap.objs.size); repeat (any_goals (first | assumption | wp_step))
    refine codeAny_mono (codeAny_call_builtin (R := wants (fun r s2 => r = .none ∧ ∃ g tk, s2 = { s with heap := g, toks := tk } ∧ g.SetOf (PySem.strKind P W) s.heap.objs.size (fun k => (dst xs).any (· == k)) (dst xs).length ∧ ∀ b o, b < s.heap.objs.size → s.heap.get? b = some o → g.get? b = some o) E)
      PySem.F.called_set.init.plain PySem.F.entry_set_init (check_set_init_1 tS ?_)) fun r2 s2 hr2 => ?_
    · obtain ⟨⟨oc, od, odt, os⟩, hol, hc, nl, hd⟩ := pl
      dsimp only at hc hd; subst hc hd
      have gl : (s.heap.push { cls := .type "set", dict := none, data := .set #[] 0 (.fresh 0 0 b) }).get? l = some { cls := .type "tuple", dict := od, data := .seq its nl, slots := os } := Heap.get?_push_of_some _ hol
      have f9 := PySem.F.sub_tuple_set; have f10 := PySem.F.sub_tuple_frozenset; have f11 : (Value.type "tuple" == Value.type "dict") = false := by decide
      have pl1 : (s.heap.push { cls := .type "set", dict := none, data := .set #[] 0 (.fresh 0 0 b) }).IsTuple l its := ⟨_, gl, rfl, nl, rfl⟩
      unfold Builtin.«set.__init__» noKeywords Builtin.Frozenset.updateFrom; generalize eI : pyIter = it; wp_walk; subst eI
      refine wpAny_pyIter_tuple pl1 (wpAny_bind (wpAny_runValue ?_))
      have lt := Heap.lt_size hol
      have nh3 : C.in1.in1.in1.handled = none := by simp [nh]
      have n1 : l ≠ (s.heap.push { cls := .type "set", dict := none, data := .set #[] 0 (.fresh 0 0 b) }).objs.size := by rw [Heap.size_push]; exact Nat.ne_of_lt (Nat.lt_succ_of_lt lt)
      have n2 : s.heap.objs.size ∉ [(s.heap.push { cls := .type "set", dict := none, data := .set #[] 0 (.fresh 0 0 b) }).objs.size, l] := by
        rw [Heap.size_push]; simp only [List.mem_cons, List.not_mem_nil, or_false]; exact not_or.mpr ⟨Nat.ne_of_lt (Nat.lt_succ_self _), Nat.ne_of_gt lt⟩
      have hz : xs.length = its.size := by rw [← StrsAre.len_eq rs, Array.length_toList]
      have wk := (Walks.tuple (prog := P) (w := W) nh3 (s.heap.push { cls := .type "set", dict := none, data := .set #[] 0 (.fresh 0 0 b) }).objs.size l n1 its).toS
      rw [← hz] at wk
      refine set_put wk n2 (fun i v hv => strs_get rs (by rw [Array.getElem?_toList]; exact hv)) hb xs.length 0 _ (by omega) ⟨⟨_, Heap.get?_push_size _ rfl, rfl, rfl⟩, pl1.push _⟩ ?_ fun s3 hm h3 => ?_
      · refine SetOf_congr ((setObjOf_fresh (knd := PySem.strKind P W) b).setOf (Heap.get?_push_of_some _ gS) (by unfold scanBound; omega)) (fun _ => rfl) rfl
      · obtain ⟨g, _, _, tk, _⟩ := s3
        obtain rfl := hm.gens; obtain rfl := hm.drawn; obtain rfl := hm.os
        refine wpAny_pure (?_ : wpAny _ _ (ret Value.none) _ _ _)
        refine wpAny_pure ⟨rfl, g, tk, rfl, h3, fun b o hb e => hm.heap b o ?_ (Heap.get?_push_of_some _ (Heap.get?_push_of_some _ e))⟩
        rw [Heap.size_push]; simp only [List.mem_cons, List.not_mem_nil, or_false]; exact not_or.mpr ⟨Nat.ne_of_lt hb, Nat.ne_of_lt (Nat.lt_succ_of_lt hb)⟩
    · cases r2 with
      | error _ => exact hr2
      | ok y =>
        cases y with
        | ret v =>
          obtain ⟨rfl, g, tk, rfl, h3, h4⟩ := hr2
          repeat (any_goals (first | assumption | wp_step))
          exact fin g tk h3 h4
        | _ => exact hr2.elim
  | _ => exact hr.elim
end Z

namespace Z
open PySem PySem.Spec PyProof.Rows L2

/-! ### len(set(x)), x a list or tuple of texts -/
def strs? : List Dv → Option (List Str)
  | [] => some []
  | .str z :: r => (strs? r).map (z :: ·)
  | _ => none
theorem strs?_map : ∀ xs : List Str, strs? (xs.map .str) = some xs
  | [] => rfl
  | x :: r => by
    show (strs? (r.map .str)).map (x :: ·) = _
    rw [strs?_map r]; rfl
theorem strs?_vals {K : PySem.W.Frag} {B : Lo} {H : Hp} : ∀ {ds : List Dv} {vs : List V} {zs : List Str}, Rps K B H ds vs → strs? ds = some zs → vs = zs.map V.str
  | _, _, _, .nil, h => by cases h; rfl
  | _, _, _, .cons r rr, h => by
    cases r with
    | str x =>
      obtain ⟨y, hy, rfl⟩ := Option.map_eq_some_iff.mp h
      rw [strs?_vals rr hy]; rfl
    | _ => cases h
theorem strsAre_vals : ∀ {zs : List Str} {us : List Value}, Vals (zs.map V.str) us → StrsAre us zs
  | [], _, .nil => .nil
  | n :: ns, _, .cons r t => by
    obtain ⟨k, rfl⟩ := r
    exact .cons n k (strsAre_vals t)
def fLenSet (f : Fn Dv) : Fn Dv := fun env s => (f env s).bind fun x s1 => match (seqOf s1 x).bind strs? with
  | some zs => Rs.iff (decide (zs.length ≤ 4000)) (.ok (.int (dst zs).length) s1)
  | none => .bad
theorem z_lenSet {G : Gz} {bs : List Str} {k : Nat} {X : Cx} {N : List Str} {nm : List (Str × NameKind)} {ow : Str → Bool} {a : Expr} {fa : Fn Dv} {p p2 q pos : Pos} (c : Cz G bs k X N nm ow) (ha : ZE X a fa) (hb : bOk bs nm "len" = true := by decide +kernel) (hb2 : bOk bs nm "set" = true := by decide +kernel)
    (na : starEach [a] X.env = (false, eval a X.env) :: starEach [] X.env := by rfl) : ZE X (.Call (.Name "len" p) [.Call (.Name "set" p2) [a] [] q] [] pos) (fLenSet fa) := by
  refine ⟨fun pins s σ H Q I h => ?_⟩
  obtain ⟨B, env, st, d, st', hE, hS, hf, hQ⟩ := h
  obtain ⟨x, s1, h1, hf⟩ := Rs.bind_ok hf
  split at hf
  · rename_i zs e1
    obtain ⟨hz, hf⟩ := Rs.iff_ok hf
    have hz := of_decide_eq_true hz
    cases hf
    obtain ⟨ds, e2, e3⟩ := Option.bind_eq_some_iff.mp e1
    refine Call_ (ld_blt I (c.blt hb).1 (c.blt hb).2 PySem.boot_len ?_)
    refine callWith_builtin1 (args_cons ?_ rfl) rfl rfl
    refine Call_ (ld_blt I (c.blt hb2).1 (c.blt hb2).2 (by decide +kernel : bootBuiltins "set" = some (.type "set")) ?_)
    refine callWith_type1 (args_cons (thn (ha.run pins s σ H (fun v H1 => ∃ B1 : Lo, Ext B H B1 H1 ∧ B1.hid = B.hid ∧ Sim X.K B1 H1 st' ∧ Rp X.K B1 H1 x v) I ⟨B, env, st, x, st', hE, hS, h1, fun B1 H1 v x1 e1 S1 r1 => ⟨B1, x1, e1, S1, r1⟩⟩) fun u t1 ⟨v, H1, I1, ru, B1, x1, eh, S1, r1⟩ => args_nil ?_) na) na rfl
    obtain ⟨l, us, rfl, hq, r2⟩ := seq_of S1 r1 e2
    obtain rfl := strs?_vals r2 e3
    obtain rfl : u = Value.ref l := ru
    have nh := I1.ok.hd c.calm
    have fin : ∀ (g : Heap) (tk : Nat), g.SetOf (PySem.strKind X.prog X.w) t1.heap.objs.size (fun k => (dst zs).any (· == k)) (dst zs).length → (∀ b o, b < t1.heap.objs.size → t1.heap.get? b = some o → g.get? b = some o) →
        wpAny (model X.prog X.w) X.A (call (.builtin "len") [.ref t1.heap.objs.size] []) (EP X pins σ Q) X.xe { t1 with heap := g, toks := tk } := fun g tk hg hk => by
      obtain ⟨o, es, ep, t, ho, hex, hd, _, _, _, hfit, hn⟩ := hg
      have I2 : Inv X pins σ H1 { t1 with heap := g, toks := tk } := I1.kept fun b o e => hk b o (Heap.lt_size e) e
      have hl := dst_le zs
      refine call_len_set ho hex hd hfit (by rw [hn]; omega) ⟨.int (dst zs).length, H1, I2.tok _, ⟨_, by rw [hn]⟩, hQ B1 H1 _ x1 eh S1 (.int _)⟩
    have hbound : zs.length + 1 < scanBound := by unfold scanBound; omega
    rcases hq with hq | hq
    · obtain ⟨its, r, pl, _⟩ := I1.list hq
      exact set_ofL nh pl.isList (by simpa using strsAre_vals r) hbound fun g tk h1 h2 => args_nil (fin g tk h1 h2)
    · obtain ⟨its, r, pl, _⟩ := I1.tuple hq
      exact set_ofT nh pl (by simpa using strsAre_vals r) hbound fun g tk h1 h2 => args_nil (fin g tk h1 h2)
  · cases hf

/-! ### str(int) -/
def gStr (xs : List Dv) (s : Sto) : Rs Dv := match xs with
  | [.int i] => Rs.iff (decide (i.natAbs.log2 < 1920)) (.ok (.str (toString i)) s)
  | _ => .bad
section
variable {G : Gz} {bs : List Str} {k : Nat} {X : Cx} {N : List Str} {nm : List (Str × NameKind)} {ow : Str → Bool} {e a : Expr} {fs : Fn (List Dv)} {fa : Fn Dv} {p pos apos : Pos}
/-! ### x.upper() -/
def gUpper (x : Dv) (s : Sto) : Rs Dv := match x with
  | .str z => Rs.iff (decide (z.length ≤ 5592405)) (.ok (.str (Txt.upper z)) s)
  | _ => .bad
theorem z_upper (ha : ZE X a fa) (hbase : attributeBase a "upper" X.env (eval a X.env) = eval a X.env := by rfl) (hline : (apos.endLine == pos.line) = true := by rfl) : ZE X (.Call (.Attribute a "upper" apos) [] [] pos) (fUn gUpper fa) := by
  refine pe_mono (pe_upper ha hbase hline) fun σ H Q q => ?_
  obtain ⟨B, env, s, d, s', hE, hS, hf, hQ⟩ := q
  obtain ⟨x, s1, h1, hf⟩ := Rs.bind_ok hf
  unfold gUpper at hf
  split at hf
  · obtain ⟨hc, hf⟩ := Rs.iff_ok hf
    cases hf
    refine ⟨B, env, s, _, _, hE, hS, h1, fun B1 H1 v x1 e1 S1 r1 => ?_⟩
    cases r1
    exact ⟨⟨_, rfl⟩, _, rfl, rfl, of_decide_eq_true hc, hQ B1 H1 _ x1 e1 S1 (.str _)⟩
  · cases hf

/-! ### [..] * n, n written -/
def fTimesL (f : Fn (List Dv)) (n : Nat) : Fn (List Dv) := fun env s => (f env s).bind fun ds s1 => Rs.iff (decide (ds.length * n ≤ 16777216) && decide (n ≤ 1000)) (.ok (List.replicate n ds).flatten s1)
end
end Z

namespace Z
open PySem PySem.Spec PyProof.Rows L2

/-! ### truths beside ints: +, -, str -/
def b2n (b : Bool) : Int := if b = true then 1 else 0
def rBI (f : Int → Int → Int) : R2 := fun x y H Q => ∃ b j, x = .bl b ∧ y = .int j ∧ Q (.int (f (b2n b) j)) H
section
variable {X : Cx}
theorem op_addBI : OpR X (binaryOp .Add) (rBI fun i j => i + j) := by
  intro pins s σ H x y v u Q I rx ry h
  obtain ⟨b, j, rfl, rfl, q⟩ := h
  cases rx
  obtain ⟨t, rfl⟩ := ry
  exact PySem.IntBool.add_bool_int ⟨.int _, H, I.tok _, ⟨_, rfl⟩, q⟩
theorem op_subBI : OpR X (binaryOp .Sub) (rBI fun i j => i - j) := by
  intro pins s σ H x y v u Q I rx ry h
  obtain ⟨b, j, rfl, rfl, q⟩ := h
  cases rx
  obtain ⟨t, rfl⟩ := ry
  exact PySem.IntBool.sub_bool_int ⟨.int _, H, I.tok _, ⟨_, rfl⟩, q⟩
end
def gBI (f : Int → Int → Int) (g : Dv → Dv → Sto → Rs Dv) : Dv → Dv → Sto → Rs Dv := fun x y s => match x, y with
  | .bl b, .int j => .ok (.int (f (b2n b) j)) s
  | x, y => g x y s
theorem oz_BI {K : PySem.W.Frag} {f : Int → Int → Int} {g : Dv → Dv → Sto → Rs Dv} {r : R2} (hg : OpZ K r g) : OpZ K (fun x y H Q => rBI f x y H Q ∨ r x y H Q) (gBI f g) := by
  intro B H s x y v w d s' Q S rx ry h q
  unfold gBI at h
  split at h
  · cases h
    cases rx; cases ry
    exact .inl ⟨_, _, rfl, rfl, q.same S (.int _)⟩
  · exact .inr (hg B H s _ _ v w d s' Q S rx ry h q)
abbrev gAddB := gBI (fun i j => i + j) gAdd
abbrev gSubB := gBI (fun i j => i - j) gSub
def gStrB (xs : List Dv) (s : Sto) : Rs Dv := match xs with
  | [.bl b] => .ok (.str (if b = true then Str.ofString "True" else Str.ofString "False")) s
  | [.int i] => Rs.iff (decide (i.natAbs.log2 < 1920)) (.ok (.str (toString i)) s)
  | _ => .bad
def rStrB : List V → Hp → VK → Prop := fun xs H Q => (∃ b : Bool, xs = [.bl b] ∧ Q (.str (if b = true then Str.ofString "True" else Str.ofString "False")) H) ∨ ∃ i : Int, xs = [.int i] ∧ i.natAbs.log2 < 1920 ∧ Q (.str (toString i)) H
theorem call_strB {X : Cx} : CallR X (.type "str") rStrB := by
  intro pins s σ H xs us Q I r h
  rcases h with ⟨b, rfl, q⟩ | h
  · obtain ⟨u, rfl, rx⟩ := vals1 r
    cases rx
    refine PySem.P.str_of_bool ⟨.str (if b = true then Str.ofString "True" else Str.ofString "False"), H, I.tok _, ⟨_, by cases b <;> rfl⟩, q⟩
  · exact call_str_int pins s σ H xs us Q I r h
theorem cz_strB {K : PySem.W.Frag} : CallZ K rStrB gStrB := by
  intro B H s xs vs d s' Q S r h q
  unfold gStrB at h
  split at h
  · cases h
    cases r with
    | cons r1 rr =>
      cases rr
      cases r1
      exact .inl ⟨_, rfl, q.same S (.str _)⟩
  · obtain ⟨hc, h⟩ := Rs.iff_ok h
    cases h
    cases r with
    | cons r1 rr =>
      cases rr
      cases r1
      exact .inr ⟨_, rfl, of_decide_eq_true hc, q.same S (.str _)⟩
  · cases h
section
variable {G : Gz} {bs : List Str} {k : Nat} {X : Cx} {N : List Str} {nm : List (Str × NameKind)} {ow : Str → Bool} {e a b : Expr} {fs : Fn (List Dv)} {fa fb : Fn Dv} {p pos apos : Pos}
theorem z_addB (ha : ZE X a fa) (hb : ZE X b fb) : ZE X (.BinOp a .Add b pos) (fBin gAddB fa fb) := z_op (OpR.or op_addBI op_addZ) (oz_BI oz_add) ha hb
theorem z_subB (ha : ZE X a fa) (hb : ZE X b fb) : ZE X (.BinOp a .Sub b pos) (fBin gSubB fa fb) := z_op (OpR.or op_subBI op_sub) (oz_BI oz_int) ha hb
theorem z_strB (c : Cz G bs k X N nm ow) (ha : ZA X [e] fs) (hb : bOk bs nm "str" = true := by decide +kernel) (he : starEach [e] X.env = (false, eval e X.env) :: starEach [] X.env := by rfl) : ZE X (.Call (.Name "str" p) [e] [] pos) (fCall gStrB fs) :=
  z_callTy c call_strB cz_strB ha (by decide +kernel) hb (by decide +kernel) (by decide +kernel) he rfl
end
end Z

namespace Z
open PySem PySem.Spec PyProof.Rows L2

/-! ### [d[n] for n in d if ..], d a dict -/
def dvV (ks0 : List (Key × V)) (T : Key → Bool) : List (Key × V) → Option (List V)
  | [] => some []
  | p :: r => if T p.1 = true then (match valV ks0 p.1, dvV ks0 T r with | some v, some vs => some (v :: vs) | _, _ => none) else dvV ks0 T r
def tDv (jd jn : Nat) (tt : TT) : TE := tLockE (tLc (iKeys (tVar jd)) (gName jn) tt (tDGet (tVar jd) (tVar jn)) [jn])
/-! ### .. as a reading -/
def dvD (kvs0 : List (Key × Dv)) (T : Key → Bool) : List (Key × Dv) → Option (List Dv)
  | [] => some []
  | p :: r => if T p.1 = true then (match lookK kvs0 p.1, dvD kvs0 T r with | some v, some vs => some (v :: vs) | _, _ => none) else dvD kvs0 T r
def dvT (ob : Option Nat) (env : En) : Option (Key → Bool) := match ob with
  | none => some fun _ => true
  | some j => match env[j]? with
    | some (some (.str b)) => some fun k => match k with | .inr z => !(z == b) | .inl _ => true
    | _ => none
def fDV (jd jn : Nat) (ob : Option Nat) : Fn (List Dv) := fun env s => match env[jd]? with
  | some (some (.loc n)) => match s[n]?, dvT ob env with
    | some (.dk kvs), some T => if jn < env.length ∧ kvs.length < 16777216 then (match dvD kvs T kvs with | some ds => .ok ds s | none => .bad) else .bad
    | _, _ => .bad
  | _ => .bad
section
variable {G : Gz} {bs : List Str} {k : Nat} {X : Cx} {N : List Str} {nm : List (Str × NameKind)} {ow : Str → Bool} {d n b : Str} {jd jn jb : Nat} {p1 p2 p3 p4 p5 p6 p7 p8 pos : Pos} {scope : Scope}
end
end Z

/-! # sorted(xs, key=f): whatever f's calls do to what is tracked -/
namespace Z
open PySem PySem.Spec PyProof.Rows L2 PySem.Calls PySem.W
section
variable {prog : Program} {w : World} {A : Around} {E : Value → Shared → Prop} {s : Shared}
/-- what is made of the keys that have been called for -/
structure KeyJ (prog : Program) (w : World) (A : Around) (f : Value) (vs : List Value) (a kS : Addr) (e1 : Nat) (J : Nat → List Value → Shared → Prop) : Prop where
  turn : ∀ (j : Nat) (x : Value) (t : Shared) (ks : List Value) (m : Nat), vs[j]? = some x → J j ks t → t.heap.get? kS = some (seqObj "list" ks.toArray m) → t.heap.get? a = some (seqObj "list" #[] e1) →
    wpAny (model prog w) A (call f [x]) (fun v t' => t'.heap.get? kS = some (seqObj "list" ks.toArray m) ∧ t'.heap.get? a = some (seqObj "list" #[] e1) ∧
      ∀ g, (∀ b o, b ≠ kS → t'.heap.get? b = some o → g.get? b = some o) → J (j + 1) (ks ++ [v]) { t' with heap := g }) (fun _ _ => False) t
end
end Z

/-! # lambdas of one parameter -/
namespace Z
open PySem PySem.Spec PyProof.Rows L2

/-! ### a lambda is made -/
/-- the def whose frame runs, its code object at c, its table at P -/
structure Lz (G : Gz) (X : Cx) (x : Str) (c P : Addr) : Prop where
  q : X.env.qual = x ++ (".<locals>." : Str)
  cd : X.env.code = .ref c
  ti : PySem.W.tabIn G.K x = some (c, P)
  tb : LamX.TabB G.base G.mg c P
  mem : x ∈ tabN
  inj : ∀ y ∈ tabN, ∀ c', PySem.W.tabIn G.K y = some (c', P) → lamQ y = lamQ x
def allT (K : PySem.W.Frag) : List (Addr × Str) := tabN.filterMap fun x => (PySem.W.tabIn K x).map fun p => (p.2, lamQ x)
theorem mem_allT {K : PySem.W.Frag} {x : Str} {c P : Addr} (hx : x ∈ tabN) (e : PySem.W.tabIn K x = some (c, P)) : (P, lamQ x) ∈ allT K :=
  List.mem_filterMap.mpr ⟨x, hx, by rw [e]; rfl⟩
theorem mutH_ne {u : HO} (h : MutH (some u)) : (∀ ps, u ≠ .tbl ps) ∧ ∀ c q, u ≠ LamX.CodeO c q := by
  refine ⟨fun ps z => by rw [z] at h; exact h, fun c q z => by
    unfold LamX.CodeO at z
    rw [z] at h; exact h⟩
section
variable {K : PySem.W.Frag} {B : Lo} {H H1 : Hp} {st : Sto}
/-- no code object among what changes -/
theorem Sim.noCode (S : Sim K B H st) {c : Addr} {q : Str} (e : LamX.ExtN H H1) (h : H1 c = some (LamX.CodeO c q)) : c ∉ B.locs ∧ c ∉ B.hid := by
  refine ⟨fun z => ?_, fun z => ?_⟩
  · obtain ⟨u, hu, hm⟩ := S.mem z
    rw [e c u hu (mutH_ne hm).1] at h
    exact (mutH_ne hm).2 c q (Option.some.inj h)
  · obtain ⟨_, u, hu, hm⟩ := S.hid c z
    rw [e c u hu (mutH_ne hm).1] at h
    exact (mutH_ne hm).2 c q (Option.some.inj h)
theorem Mo.extN (e : LamX.ExtN H H1) (t : ∀ b ps, H b = some (.tbl ps) → ∃ ps', H1 b = some (.tbl ps')) : Mo B H B H1 :=
  ⟨List.prefix_refl _, fun b o h _ _ n => e b o h n, fun b xs h => e b _ h (fun _ z => by cases z), fun b o u h => e b _ h (fun _ z => by cases z), fun _ z => z.elim .inl fun z => .inr (.inl z), t⟩
theorem Sim.extN (S : Sim K B H st) (e : LamX.ExtN H H1) (t : ∀ b ps, H b = some (.tbl ps) → ∃ ps', H1 b = some (.tbl ps')) (T : LamX.Tabs (allT K) H1) : Sim K B H1 st := by
  have m := Mo.extN (B := B) e t
  refine ⟨S.nd, S.len, fun n a o e1 e2 => ?_, fun b hb => ?_, fun x hx c P et => ?_⟩
  · obtain ⟨u, hu, hm⟩ := (S.obs n a o e1 e2).there
    exact (S.obs n a o e1 e2).mono m ((e a u hu (mutH_ne hm).1).trans hu.symm)
  · obtain ⟨h1, u, hu, hm⟩ := S.hid b hb
    exact ⟨h1, u, e b u hu (mutH_ne hm).1, hm⟩
  · obtain ⟨ps, h1, h2, h3⟩ := T _ (mem_allT hx et)
    refine ⟨ps, h1, h2, fun pos cv hc => ?_⟩
    obtain ⟨c', a1, a2⟩ := h3 pos cv hc
    exact ⟨c', a1, a2, S.noCode e a2⟩
theorem Ext.extN (S : Sim K B H st) (e : LamX.ExtN H H1) (t : ∀ b ps, H b = some (.tbl ps) → ∃ ps', H1 b = some (.tbl ps')) : Ext B H B H1 :=
  ⟨Mo.extN e t, fun b o h hb => by
    obtain ⟨_, u, hu, hm⟩ := S.hid b hb
    rw [h] at hu; cases hu
    exact e b _ h (mutH_ne hm).1, fun _ h => h, fun _ h => .inl h⟩
end
section
variable {G : Gz} {bs : List Str} {k : Nat} {X : Cx} {N : List Str} {nm : List (Str × NameKind)} {ow : Str → Bool} {x : Str} {c P : Addr}
/-- the lambda's object -/
abbrev lamO (X : Cx) (params : Arguments) (body : Expr) (scope : Scope) (pm : Value) (c' : Addr) (ctv : Value) : Obj :=
  PySem.W.kla_obj "<lambda>" (X.env.qual ++ "<lambda>") params body scope (cloFrom X.env.cells scope.names []) pm c' ctv
/-- what the making does to what is tracked -/
def MadeAt (P c' : Addr) (q : Str) (H H1 : Hp) : Prop := H1 = H ∨ ∃ ps more : Array Value, H P = some (.tbl ps) ∧ H c' = none ∧ H1 = upd (upd H P (.tbl (ps ++ more))) c' (LamX.CodeO c' q)
theorem MadeAt.extN {P c' : Addr} {q : Str} {H H1 : Hp} (h : MadeAt P c' q H H1) : LamX.ExtN H H1 := by
  rcases h with rfl | ⟨ps, more, h1, h2, rfl⟩
  · exact LamX.ExtN.refl _
  · intro b o e n
    rw [upd_ne (ne_of_none e h2), upd_ne (fun z : b = P => by
      rw [z, h1] at e
      exact n ps (Option.some.inj e).symm)]
    exact e
theorem MadeAt.tbls {P c' : Addr} {q : Str} {H H1 : Hp} (h : MadeAt P c' q H H1) : ∀ b ps, H b = some (.tbl ps) → ∃ ps', H1 b = some (.tbl ps') := by
  rcases h with rfl | ⟨ps, more, h1, h2, rfl⟩
  · exact fun b ps e => ⟨ps, e⟩
  · intro b qs e
    rw [upd_ne (ne_of_none e h2)]
    by_cases hb : b = P
    · exact ⟨_, by rw [hb]; exact upd_same⟩
    · exact ⟨qs, by rw [upd_ne hb]; exact e⟩
theorem MadeAt.tabs {T : List (Addr × Str)} {P c' : Addr} {q : Str} {H H1 : Hp} (h : MadeAt P c' q H H1) (hT : LamX.Tabs T H) (hne : ∀ p ∈ T, p.1 ≠ P) : LamX.Tabs T H1 := by
  rcases h with rfl | ⟨ps, more, h1, h2, rfl⟩
  · exact hT
  · intro p hp
    obtain ⟨qs, a1, a2, a3⟩ := hT p hp
    have e := MadeAt.extN (P := P) (c' := c') (q := q) (H := H) (.inr ⟨ps, more, h1, h2, rfl⟩)
    refine ⟨qs, by rw [upd_ne (ne_of_none a1 h2), upd_ne (hne p hp)]; exact a1, a2, fun pos cv hc => ?_⟩
    obtain ⟨c0, b1, b2⟩ := a3 pos cv hc
    exact ⟨c0, b1, e _ _ b2 LamX.codeO_ne⟩
end
end Z

/-! # a lambda of one parameter is called -/
namespace Z
open PySem PySem.Spec PyProof.Rows L2
/-- one parameter, captured names, names of the module -/
structure LamS1 (nm : List (Str × NameKind)) (scope : Scope) (a : Str) : Prop where
  kind : scope.kind = .function
  co : scope.isCoroutine = false
  gen : scope.isGenerator = false
  par : scope.names.lookup a = some .local
  own : ∀ y ∈ scope.names, y.2 ≠ .cell ∧ (y.2 = .local → y.1 = a)
  free : ∀ y ∈ scope.names, y.2 = .free → nm.lookup y.1 = some .cell ∨ nm.lookup y.1 = some .free
def lamS1B (nm : List (Str × NameKind)) (scope : Scope) (a : Str) : Bool :=
  decide (scope.kind = .function) && !scope.isCoroutine && !scope.isGenerator && decide (scope.names.lookup a = some .local) &&
    scope.names.all fun y => !decide (y.2 = .cell) && (!decide (y.2 = .local) || decide (y.1 = a)) && (!decide (y.2 = .free) || decide (nm.lookup y.1 = some .cell) || decide (nm.lookup y.1 = some .free))
/-- the context of its body, called at s within X -/
def keyCx (X : Cx) (A : Around) (s : Shared) (H : Hp) (scope : Scope) (f c' : Addr) : Cx := (LamX.lamCx X A X.stack s H E0 scope f c').nox
/-- where it is called -/
structure KeyA (X : Cx) (A : Around) (k : Nat) : Prop where
  dp : A.depth < recursionLimit
  hd : A.handled = none
  fr : A.frames = X.A.frames
  gd : A.guards = X.A.guards
  rm : ∀ env : Env, Room k (A.deeper env)
section
variable {G : Gz} {bs : List Str} {k k' : Nat} {X : Cx} {N : List Str} {nm : List (Str × NameKind)} {ow : Str → Bool} {A : Around}
theorem KeyA.in1 (r : Room (k + 1) X.A) : KeyA X X.A.in1 k :=
  ⟨by have := r.dp; show X.A.depth < _; omega, r.hd, rfl, rfl, fun env => ⟨r.hd, by have := r.dp; show X.A.depth + 1 + 3 * k + 5 < _; omega, by have := r.un; show X.A.units + 1 + 3 + 16 * k + 200 < _; omega⟩⟩
theorem LamS1.has (c : Cz G bs k X N nm ow) {scope : Scope} {a : Str} (L : LamS1 nm scope a) (ok : X.Ok) : ∀ y ∈ scope.names, y.2 = .free → ∃ c, X.env.cells.lookup y.1 = some c := fun y hy e => by
  have eN : X.env.scope.names = nm := c.nm
  rcases L.free y hy e with z | z
  · exact ok.has _ (.inl (by show X.env.scope.names.lookup _ = _; rw [eN]; exact z))
  · exact ok.has _ (.inr (by show X.env.scope.names.lookup _ = _; rw [eN]; exact z))
end
end Z

/-! # sorted(x, key=lambda a: ..) -/
namespace Z
open PySem PySem.Spec PyProof.Rows L2
section
variable {X : Cx} {pins : List (Addr × Obj)} {σ : L2.St} {H : Hp} {s : Shared}
end
/-- the keys of the items, one call behind the other -/
def keysZ (j : Nat) (te : Fn Dv) (env : En) : List Dv → Sto → Rs (List Dv)
  | [], s => .ok [] s
  | d :: ds, s => (te (env.set j (some d)) s).bind fun y s1 => (keysZ j te env ds s1).bind fun ys s2 => .ok (y :: ys) s2
def fSortK (j : Nat) (te : Fn Dv) (fs : Fn (List Dv)) : Fn (List Dv) := fun env s => (fs env s).bind fun xs s1 => match xs with
  | [x] => match seqOf s1 x with
    | some ds => Rs.iff (decide (ds.length ≤ 16777216)) ((keysZ j te env ds s1).bind fun ks s2 => match ks.mapM (pyOf s2) with
      | some ps => Rs.iff (alikeB ps && sortB ps && ds.length == ps.length) (.ok (sortD ds ps) s2)
      | none => .bad)
    | none => .bad
  | _ => .bad
section
variable {G : Gz} {bs : List Str} {k : Nat} {X : Cx} {N : List Str} {nm : List (Str × NameKind)} {ow : Str → Bool} {x a : Str} {cc P : Addr} {j : Nat} {e body : Expr} {params : Arguments} {scope : Scope} {fa te : Fn Dv} {fs : Fn (List Dv)} {p lpos kpos pos : Pos}
end
end Z

/-! # defs in which lambdas are made -/
namespace Z
open PySem PySem.Spec PyProof.Rows L2
section
variable {G : Gz} {bs : List Str} {k : Nat} {X : Cx} {N : List Str} {nm : List (Str × NameKind)} {ow : Str → Bool} {elt tg iter : Expr} {ifs : List Expr} {scope : Scope} {own : List (Str × Nat)} {pos : Pos} {q : Bool} {fi : Fn Src} {is : List Nat} {g : Dv → Fn En} {tt : Fn Bool} {te : Fn Dv}
end
end Z

/-! # [..] * a number that is made up -/
namespace Z
open PySem PySem.Spec PyProof.Rows L2
def fTimesE (f : Fn (List Dv)) (g : Fn Dv) : Fn (List Dv) := fun env s => (f env s).bind fun ds s1 => (g env s1).bind fun y s2 => match y with
  | .int i => Rs.iff (decide (0 ≤ i) && decide (i ≤ 1000) && decide (ds.length * i.toNat ≤ 16777216)) (.ok (List.replicate i.toNat ds).flatten s2)
  | _ => .bad
section
variable {X : Cx} {a b : Expr} {f : Fn (List Dv)} {g : Fn Dv} {pos : Pos}
end
end Z

/-! # a name in a dict -/
namespace Z
open PySem PySem.Spec PyProof.Rows L2
def gInK (x y : Dv) (s : Sto) : Rs Dv := match y with
  | .loc n => match s[n]? with
    | some (.dk kvs) => match keyD x with
      | some k => .ok (.bl (kvs.any fun kv => decide (kv.1 = k))) s
      | none => .bad
    | _ => .bad
  | _ => .bad
def gNotInK := gNot gInK
def rInK (neg : Bool) : R2 := fun y x H Q => ∃ a o, x = .ref a ∧ DGet H a y o ∧ Q (.bl (if neg then !o.isSome else o.isSome)) H
section
variable {G : Gz} {bs : List Str} {k : Nat} {X : Cx} {N : List Str} {nm : List (Str × NameKind)} {ow : Str → Bool} {a b c e : Expr} {fa fb fc : Fn Dv} {pos : Pos}
end
end Z

/-! # d.get(k, x) -/
namespace Z
open PySem PySem.Spec PyProof.Rows L2
def isDk (x : Dv) (s : Sto) : Bool := match x with
  | .loc n => match s[n]? with
    | some (.dk _) => true
    | _ => false
  | _ => false
def gGetD (x y z : Dv) (s : Sto) : Rs Dv := match x with
  | .loc n => match s[n]? with
    | some (.dk kvs) => match keyD y with
      | some k => .ok ((lookK kvs k).getD z) s
      | none => .bad
    | _ => .bad
  | _ => .bad
def fGet2 (fo fe ff : Fn Dv) : Fn Dv := fun env s => (fo env s).bind fun x s1 => Rs.iff (isDk x s1) ((fe env s1).bind fun y s2 => (ff env s2).bind fun z s3 => gGetD x y z s3)
section
variable {G : Gz} {bs : List Str} {k : Nat} {X : Cx} {N : List Str} {nm : List (Str × NameKind)} {ow : Str → Bool} {o e f : Expr} {fo fe ff : Fn Dv} {apos cpos : Pos}
end
end Z

/-! # min(x, key=lambda a: ..) of a tuple, where the keys read only -/
namespace Z
open PySem PySem.Spec PyProof.Rows L2 PySem.Calls
section
variable {G : Gz} {bs : List Str} {k k' : Nat} {X : Cx} {N : List Str} {nm : List (Str × NameKind)} {ow : Str → Bool} {A : Around}
end
/-- the keys, where reading them leaves all as it is -/
noncomputable def keysI (j : Nat) (te : Fn Dv) (env : En) (s : Sto) (ds : List Dv) : Option (List Int) :=
  open Classical in if h : ∃ ks : List Int, ∀ i d, ds[i]? = some d → te (env.set j (some d)) s = .ok (.int (ks.getD i 0)) s then some (Classical.choose h) else none
def ltI (ks : List Int) (i j : Nat) : Bool := decide (ks.getD i 0 < ks.getD j 0)
noncomputable def fMinK (j : Nat) (te : Fn Dv) (fs : Fn (List Dv)) : Fn Dv := fun env s => (fs env s).bind fun xs s1 => match xs with
  | [.tup ds] => match keysI j te env s1 ds with
    | some ks => match ds[argBest (ltI ks) (ds.length - 1)]? with
      | some d => .ok d s1
      | none => .bad
    | none => .bad
  | _ => .bad
section
variable {G : Gz} {bs : List Str} {k : Nat} {X : Cx} {N : List Str} {nm : List (Str × NameKind)} {ow : Str → Bool} {x a : Str} {cc P : Addr} {j : Nat} {e body : Expr} {params : Arguments} {scope : Scope} {fa te : Fn Dv} {fs : Fn (List Dv)} {p lpos kpos pos : Pos}
end
end Z

/-! # min(xs) of a list of data -/
namespace Z
open PySem PySem.Spec PyProof.Rows L2
def ltD (ps : List PyData) (i j : Nat) : Bool := PySem.W.dataLt (ps.getD i .none) (ps.getD j .none)
def noNone (ps : List PyData) : Bool := ps.all fun p => match p with | .none => false | _ => true
def gMinD (xs : List Dv) (s : Sto) : Rs Dv := match xs with
  | [x] => match seqOf s x with
    | some ds => match ds.mapM (pyOf s) with
      | some ps => Rs.iff (isL x s && (alikeB ps && noNone ps) && ds.length == ps.length) (match ds[PySem.argBest (ltD ps) (ds.length - 1)]? with
        | some d => .ok d s
        | none => .bad)
      | none => .bad
    | none => .bad
  | _ => .bad
def rMinD (K : PySem.W.Frag) : List V → Hp → VK → Prop := fun vs H Q => ∃ (a : Addr) (us : List V) (ps : List PyData), vs = [V.ref a] ∧ SqL K H a us ∧ DpAll K H us ps ∧ PySem.W.AlikeAll ps ∧ us.length = ps.length ∧ 0 < us.length ∧ (∀ p ∈ ps, p.depth ≤ 40) ∧
  ∀ v, us[PySem.argBest (ltD ps) (us.length - 1)]? = some v → Q v H
section
variable {X : Cx}
end
section
variable {G : Gz} {bs : List Str} {k : Nat} {X : Cx} {N : List Str} {nm : List (Str × NameKind)} {ow : Str → Bool} {e : Expr} {fs : Fn (List Dv)} {pos p : Pos}
end
end Z

/-! # y = [.. for ..], with a lambda within -/
namespace Z
open PySem PySem.Spec PyProof.Rows L2
section
variable {G : Gz} {bs : List Str} {k : Nat} {X : Cx} {N : List Str} {nm : List (Str × NameKind)} {ow : Str → Bool} {q : Bool} {tg iter elt : Expr} {ifs : List Expr} {scope : Scope} {fsr : Fn Src} {is : List Nat} {g : Dv → Fn En} {tt : Fn Bool} {te : Fn Dv} {pos : Pos} {y : Str}
end
end Z

/-! # Defs that may raise, with defaults, by keywords -/
namespace Z
open PySem PySem.Spec PyProof.Rows L2
section
variable {G : Gz} {bs : List Str} {k : Nat} {X : Cx} {N : List Str} {nm : List (Str × NameKind)} {ow : Str → Bool} {W : WX} {e : Expr} {es : List Expr} {fs gs : Fn (List Dv)} {pos p : Pos} {x : Str} {n : Nat} {φ : Phi}
structure FdX (G : Gz) (k : Nat) (x : Str) (n : Nat) (φ : Phi) (f : Addr) (fd : FuncData) (ps : List Str) : Prop where
  len : ∀ ds s, φ ds s ≠ .bad → ds.length = n
  mg : G.mg x = some (.ref f)
  kp : PySem.W.keepIn G.K (.ref f) = true
  hn : ps.length = n
  run : FnX G k f fd ps (spX G.K G.mg n φ)
theorem FdX.mono {G : Gz} {j k : Nat} {x : Str} {n : Nat} {φ : Phi} {f : Addr} {fd : FuncData} {ps : List Str} (F : FdX G j x n φ f fd ps) (h : j ≤ k) : FdX G k x n φ f fd ps :=
  ⟨F.len, F.mg, F.kp, F.hn, ⟨fun A outer s H args us vs Q E hg hr => F.run.run A outer s H args us vs Q E hg (hr.mono h)⟩⟩
def fCallXK (φ : Phi) (m j : Nat) (f g : Fn (List Dv)) : Fn Dv := fun env s => ((f env s).bind fun xs s1 => (g env s1).bind fun zs s2 => Rs.iff (xs.length == m && zs.length == j) (.ok (xs ++ zs) s2)).sure.bind φ
end
end Z

/-! # A lambda without parameters that may raise, asked where an error is handled -/
namespace Z
open PySem PySem.Spec PyProof.Rows L2
/-- no parameter, no name of its own -/
structure LamS0 (nm : List (Str × NameKind)) (scope : Scope) : Prop where
  kind : scope.kind = .function
  co : scope.isCoroutine = false
  gen : scope.isGenerator = false
  own : ∀ y ∈ scope.names, y.2 ≠ .local ∧ y.2 ≠ .cell
  free : ∀ y ∈ scope.names, y.2 = .free → nm.lookup y.1 = some .cell ∨ nm.lookup y.1 = some .free
def lamS0B (nm : List (Str × NameKind)) (scope : Scope) : Bool :=
  decide (scope.kind = .function) && !scope.isCoroutine && !scope.isGenerator && scope.names.all fun y => !decide (y.2 = .local) && !decide (y.2 = .cell) && (!decide (y.2 = .free) || decide (nm.lookup y.1 = some .cell) || decide (nm.lookup y.1 = some .free))
/-- where the lambda's body runs -/
def askCx (X : Cx) (A : Around) (outer : List Env) (s : Shared) (H : Hp) (E : XK) (scope : Scope) (f c' : Addr) : Cx :=
  (LamX.lamCx X A outer s H E0 scope f c').wish (fun e s' => wpAny (model X.prog X.w) (A.deeper (LamX.lamEnv X scope s.heap.objs.size f c')) (leaving (LamX.lamEnv X scope s.heap.objs.size f c') e) (fun _ s'' => L2N.CX X.prog X.w outer H s E e s'') (fun e' s'' => L2N.CX X.prog X.w outer H s E e' s'') s')
section
variable {G : Gz} {bs : List Str} {k k' : Nat} {X : Cx} {N : List Str} {nm : List (Str × NameKind)} {ow : Str → Bool} {x : Str} {c P : Addr}
/-- what the asking of a lambda comes to: its body's reading at the maker's slots -/
def tAsk (K : PySem.W.Frag) (mg : Str → Option Value) (i : Nat) (f c' : Addr) (q : Str) (σ : L2.St) (fb : Fn Dv) (W : WX) : TE := fun σZ HZ Q => σZ[i]? = some (some (.ref f)) ∧ HZ c' = some (LamX.CodeO c' q) ∧ tX K mg (fun cls d _ H => WE W σZ cls d H) fb σ HZ Q
end
end Z

/-! # _law_heard(lambda: ..) -/
namespace Z
open PySem PySem.Spec PyProof.Rows L2 PySem.W
def oddT : Dv := .tup [.str (Str.ofString "odd")]
/-- the shape of the def, its suite's reading -/
structure HeardB (pr : Nat → Bool) (G : Gz) (bs : List Str) (k : Nat) (Nh : List Str) (nmh : List (Str × NameKind)) (st : Stmt) (gs : Addr → Addr → Nat → Fn Ct) : Prop where
  scope : FnScope Nh ["ask"] (defScope st)
  names : (defScope st).names = nmh
  n0 : Nh[0]? = some ("ask" : Str)
  n1 : Nh[1]? = some ("found" : Str)
  n2 : Nh[2]? = some ("e" : Str)
  l0 : nmh.lookup ("ask" : Str) = some .local
  l1 : nmh.lookup ("found" : Str) = some .local
  l2 : nmh.lookup ("e" : Str) = some .local
  g1 : gOk nmh "CountError" = true
  g2 : gOk nmh "LostError" = true
  shape : ∃ (b0 : Stmt) (suite : List Stmt) (p1 p2 p3 p4 p5 p6 p7 p8 p9 p10 p11 p12 p13 p14 p15 p16 p17 : Pos) (j1 j2 k1 k2 k3 : Nat),
    defBody st = [.Assign [.Name "found" p1] (.Tuple [.Constant (.str "odd") j1 p2] k1 p3) p4,
      .Try [.Assign [.Name "found" p5] (.Tuple [.Constant (.str "told") j2 p6, .Call (.Name "ask" p7) [] [] p8] k2 p9) p10]
        [.ExceptHandler (some (.Tuple [.Name "CountError" p11, .Name "LostError" p12] k3 p13)) (some "e") (b0 :: suite) p14] [] [] p15,
      .Return (some (.Name "found" p16)) p17] ∧
    ∀ (X' : Cx) (a dd : Addr) (cn : Nat), Ch pr G bs k X' Nh nmh a dd cn → ZB X' (b0 :: suite) (gs a dd cn)
noncomputable def fHeard (pr : Nat → Bool) (m : Nat) (gs : Addr → Addr → Nat → Fn Ct) (fb : Fn Dv) : Fn Dv := fun env s => match fb env s with
  | .ok d s1 => gcZ s.length (.tup [.str (Str.ofString "told"), d]) s1
  | .exc (.xn _ _ cn fs) s1 => Rs.iff (decide (cn < 9) && pr cn) (allX fun a dd => (gs a dd cn (((List.replicate m none).set 1 (some oddT)).set 2 (some (.xn a dd cn fs))) s1).bind fun ct s2 => match ct with
    | .next e => (match e[1]? with | some (some d) => gcZ s.length d s2 | _ => .bad)
    | _ => .bad)
  | _ => .bad
abbrev heardCx (X : Cx) (Nh : List Str) (st : Stmt) (g : Addr) (cdv : Value) (s' : Shared) (H1 : Hp) : Cx := cxOf CX0 X.prog X.w X.K X.mg X.base Nh "_law_heard" (defScope st) g cdv X.A X.stack s' H1 E0
section
variable {pr : Nat → Bool} {G : Gz} {bs bsh : List Str} {k kh : Nat} {X : Cx} {N Nh : List Str} {nm nmh : List (Str × NameKind)} {ow : Str → Bool} {x : Str} {cc P : Addr} {params : Arguments} {body : Expr} {scope : Scope} {fb : Fn Dv} {p lpos pos : Pos} {st : Stmt} {g : Addr} {fd : FuncData} {gs : Addr → Addr → Nat → Fn Ct} {A : Nat → Addr}
end
end Z

/-! # Where an error is handled: places, in, count -/
namespace Z
open PySem PySem.Spec PyProof.Rows L2
section
variable {X : Cx}
theorem eqU_count {y : V} : ∀ {ys : List V} {us : List Value}, Vals ys us → ys.all flatV = true → us.countP (eqU y) = ys.countP fun z => eqV z y
  | _, _, .nil, _ => rfl
  | _, _, .cons r rr, h => by
    rw [List.all_cons, Bool.and_eq_true] at h
    rw [List.countP_cons, List.countP_cons, eqU_count rr h.2, eqU_of r h.1]
def rCountV (K : PySem.W.Frag) : V → List V → Hp → VK → Prop := fun x xs H Q => ∃ (a : Addr) (ys : List V) (y : V), x = V.ref a ∧ xs = [y] ∧ SqL K H a ys ∧ flatV y = true ∧ ys.all flatV = true ∧ Q (.int ((ys.countP fun z => eqV z y : Nat) : Int)) H
end
def gCountL (x : Dv) (xs : List Dv) (s : Sto) : Rs Dv := match xs with
  | [y] => match fV y, (seqOf s x).bind (·.mapM fV) with
    | some u, some us => Rs.iff (isL x s) (.ok (.int ((us.countP fun z => eqV z u : Nat) : Int)) s)
    | _, _ => .bad
  | _ => .bad
section
variable {X : Cx} {o a b e : Expr} {fo fa fb : Fn Dv} {fs : Fn (List Dv)} {apos cpos pos : Pos}
end
end Z

/-! # tuple * int, of any number from nought -/
namespace L2
open PySem PySem.Spec PyProof.Rows
theorem tuple_mul_one (l : Addr) (items : Array Value) (n : Nat) (sl : Array (Option Value)) (dd : Option Addr) (u : Tok) :
    Meets (Builtin.«tuple.__mul__» ⟨[.ref l, .int 1 u], []⟩) (fun _ R s => s.heap.get? l = some { cls := .type "tuple", dict := dd, data := .seq items n, slots := sl } ∧
      R (.ok (.ret (.ref l))) s) :=
  .of_wp fun prog w A R s h => by
    obtain ⟨hp, g, d, tk, os⟩ := s
    obtain ⟨hl, h⟩ := h
    have f1 := AutoSeq1.idx_int
    have c0 : (decide ((1 : Int) < -(2 ^ 63)) || decide ((1 : Int) ≥ 2 ^ 63)) = false := by decide
    have c1 : (items.isEmpty || (1 : Int) == 1) = true := by simp
    wp_walk using wpAny_loadPart' hl
    repeat (first
      | (refine wpAny_ite_false (decide_eq_false (by rw [c0]; exact Bool.false_ne_true)) ?_; wp_walk using wpAny_loadPart' hl)
      | (refine wpAny_ite_true (decide_eq_true c1) ?_; wp_walk using wpAny_loadPart' hl))
    exact ⟨_, rfl, h⟩
theorem tuple_mul_nought (l : Addr) (items : Array Value) (n : Nat) (sl : Array (Option Value)) (dd : Option Addr) (u : Tok) (hi : items.isEmpty = false) :
    Meets (Builtin.«tuple.__mul__» ⟨[.ref l, .int 0 u], []⟩) (fun _ R s => s.heap.get? l = some { cls := .type "tuple", dict := dd, data := .seq items n, slots := sl } ∧
      R (.ok (.ret (Value.ref s.heap.objs.size))) { s with heap := s.heap.push { cls := Value.type "tuple", data := Data.seq #[] }, toks := s.toks }) :=
  .of_wp fun prog w A R s h => by
    obtain ⟨hp, g, d, tk, os⟩ := s
    obtain ⟨hl, h⟩ := h
    have f1 := AutoSeq1.idx_int
    have c0 : (decide ((0 : Int) < -(2 ^ 63)) || decide ((0 : Int) ≥ 2 ^ 63)) = false := by decide
    have c1 : (items.isEmpty || (0 : Int) == 1) = false := by rw [hi]; rfl
    have c2 : (decide ((0 : Int) ≤ 0) || items.isEmpty) = true := rfl
    wp_walk using wpAny_loadPart' hl
    repeat (first
      | (refine wpAny_ite_false (decide_eq_false (by rw [c0]; exact Bool.false_ne_true)) ?_; wp_walk using wpAny_loadPart' hl)
      | (refine wpAny_ite_false (decide_eq_false (by rw [c1]; exact Bool.false_ne_true)) ?_; wp_walk using wpAny_loadPart' hl)
      | (refine wpAny_ite_true (decide_eq_true c2) ?_; wp_walk using wpAny_loadPart' hl))
    exact ⟨_, rfl, h⟩
end L2
namespace Z
open PySem PySem.Spec PyProof.Rows L2
def rMul1 (K : PySem.W.Frag) : R2 := fun x y H Q => ∃ l xs, x = .ref l ∧ y = .int 1 ∧ SqT K H l xs ∧ Q x H
theorem op_mul1 {X : Cx} : OpR X (binaryOp .Mult) (rMul1 X.K) := by
  intro pins s σ H x y v u Q I rx ry h
  obtain ⟨l, xs, rfl, rfl, hT, q⟩ := h
  cases rx
  obtain ⟨t, rfl⟩ := ry
  obtain ⟨its, r, ⟨⟨cls, dd, data, sl⟩, ho, hc, n, hd⟩, hs⟩ := I.tuple hT
  simp only at hc hd
  subst hc hd
  refine wpAny_binaryOp_repeat_ref (T := "tuple") (U := "int") (by decide) ⟨_, ho, rfl⟩ (fun s' => typeIs_int s' 1 t) noFill_tuple_mul F.fills_int_mul F.slot_int_rmul repeat_tuple F.slot_int_index.lookup
    (call_meets F.slot_int_rmul (typeIs_int s 1 t) F.entry_int_rmul (F.args_int_rmul_2 _ _) (int_rmul_tuple 1 t l its.toArray n dd sl)
      ⟨ho, rfl, ⟨_, ho, rfl⟩, call_meets F.slot_tuple_mul ⟨_, ho, rfl⟩ F.entry_tuple_mul (F.args_tuple_mul_2 _ _) (tuple_mul_one l its.toArray n sl dd t) ⟨ho, ?_⟩⟩)
  exact ⟨.ref l, H, I, rfl, q⟩
def rMul0 (K : PySem.W.Frag) : R2 := fun x y H Q => ∃ l xs, x = .ref l ∧ y = .int 0 ∧ SqT K H l xs ∧ xs ≠ [] ∧ ∀ p o, H p = none → o.dict = none → Q (.ref p) (upd H p (.frz o (.tup [])))
theorem op_mul0 {X : Cx} : OpR X (binaryOp .Mult) (rMul0 X.K) := by
  intro pins s σ H x y v u Q I rx ry h
  obtain ⟨l, xs, rfl, rfl, hT, hne, q⟩ := h
  cases rx
  obtain ⟨t, rfl⟩ := ry
  obtain ⟨its, r, ⟨⟨cls, dd, data, sl⟩, ho, hc, n, hd⟩, hs⟩ := I.tuple hT
  simp only at hc hd
  subst hc hd
  have hle : its.length = xs.length := r.length.symm
  have hi : its.toArray.isEmpty = false := by
    cases its with
    | nil => exact absurd (List.eq_nil_of_length_eq_zero hle.symm) hne
    | cons a b => rfl
  refine wpAny_binaryOp_repeat_ref (T := "tuple") (U := "int") (by decide) ⟨_, ho, rfl⟩ (fun s' => typeIs_int s' 0 t) noFill_tuple_mul F.fills_int_mul F.slot_int_rmul repeat_tuple F.slot_int_index.lookup
    (call_meets F.slot_int_rmul (typeIs_int s 0 t) F.entry_int_rmul (F.args_int_rmul_2 _ _) (int_rmul_tuple 0 t l its.toArray n dd sl)
      ⟨ho, rfl, ⟨_, ho, rfl⟩, call_meets F.slot_tuple_mul ⟨_, ho, rfl⟩ F.entry_tuple_mul (F.args_tuple_mul_2 _ _) (tuple_mul_nought l its.toArray n sl dd t hi) ⟨ho, ?_⟩⟩)
  exact tupK_new (t' := s.toks) (us := []) I (Nat.zero_le _) .nil q
def rTimesN (K : PySem.W.Frag) : R2 := fun x y H Q => rTimes K x y H Q ∨ rMul1 K x y H Q ∨ rMul0 K x y H Q
theorem op_timesN {X : Cx} : OpR X (binaryOp .Mult) (rTimesN X.K) := OpR.or op_times (OpR.or op_mul1 op_mul0)
def gTimesN (x y : Dv) (s : Sto) : Rs Dv := match x, y with
  | .int i, .int j => Rs.iff (cMul i j) (.ok (.int (i * j)) s)
  | .tup ds, .int k => Rs.iff (!ds.isEmpty && decide (0 ≤ k) && decide (k ≤ 1000) && decide (ds.length ≤ 1000)) (.ok (.tup (List.replicate k.toNat ds).flatten) s)
  | _, _ => .bad
theorem oz_timesN {K : PySem.W.Frag} : OpZ K (rTimesN K) gTimesN := by
  intro B H s x y v w d s' Q S rx ry h q
  unfold gTimesN at h
  split at h
  · exact .inl (.inl (oz_mul B H s _ _ v w d s' Q S rx ry h q))
  · rename_i ds k
    obtain ⟨hc, h⟩ := Rs.iff_ok h
    simp only [Bool.and_eq_true, decide_eq_true_eq] at hc
    obtain ⟨⟨⟨h1, h2⟩, h3⟩, h4⟩ := hc
    have hne : ∀ {zs : List V}, Rps K B H ds zs → zs ≠ [] := fun r e => by
      subst e
      cases r
      simp at h1
    cases h
    cases ry
    cases rx with
    | tup h5 h6 =>
      rcases (show k = 0 ∨ k = 1 ∨ 2 ≤ k by omega) with e | e | e
      · subst e
        refine .inr (.inr ⟨_, _, rfl, rfl, h5.sq, hne h6, fun p o hp hd => ?_⟩)
        exact new_tup S (ds := []) .nil q hp hd
      · subst e
        refine .inr (.inl ⟨_, _, rfl, rfl, h5.sq, ?_⟩)
        have e1 : (List.replicate (Int.toNat 1) ds).flatten = ds := by simp
        rw [e1] at q
        exact q.same S (.tup h5 h6)
      · exact .inl (.inr (.inr ⟨_, _, _, rfl, rfl, h5.sq, hne h6, e, h3, by rw [← h6.length]; exact h4, fun p o hp hd => new_tup S (rps_rep h6 _) q hp hd⟩))
  · cases h
section
variable {X : Cx} {a b : Expr} {fa fb : Fn Dv} {pos : Pos}
end
end Z

/-! # xs.insert(i, y) -/
namespace Z
open PySem PySem.Spec PyProof.Rows L2
def rIns : V → List V → Hp → VK → Prop := fun x vs H Q => ∃ (l : Addr) (xs : List V) (i : Int) (y : V), x = .ref l ∧ vs = [.int i, y] ∧ H l = some (.lst xs) ∧ xs.length < sizeLine ∧ 0 ≤ i ∧ i < 2 ^ 63 ∧ Q .non (upd H l (.lst (xs.take i.toNat ++ [y] ++ xs.drop i.toNat)))
def gInsert (x : Dv) (xs : List Dv) (s : Sto) : Rs Dv := match x, xs with
  | .loc n, [.int i, d] => match s[n]? with
    | some (.lst ds) => Rs.iff (decide (ds.length < 16777216) && decide (0 ≤ i) && decide (i < 2 ^ 63)) (.ok .non (s.set n (.lst (ds.take i.toNat ++ [d] ++ ds.drop i.toNat))))
    | _ => .bad
  | _, _ => .bad
section
variable {X : Cx} {o e1 e2 : Expr} {fo : Fn Dv} {fs : Fn (List Dv)} {apos cpos : Pos}
end
end Z

/-! # list(range(a, b)), list(range(b)) -/
namespace Z
open PySem PySem.Spec PyProof.Rows L2
def fLRg2 (f g : Fn Dv) : Fn (List Dv) := fun env s => (f env s).bind fun x s1 => (g env s1).bind fun y s2 => match x, y with
  | .int i, .int j => Rs.iff (inRng i && inRng j && decide ((j - i).toNat ≤ 16777216)) (.ok (rngD i (j - i).toNat) s2)
  | _, _ => .bad
def fLRg1 (g : Fn Dv) : Fn (List Dv) := fun env s => (g env s).bind fun y s2 => match y with
  | .int j => Rs.iff (inRng j && decide (j.toNat ≤ 16777216)) (.ok (rngD 0 j.toNat) s2)
  | _ => .bad
section
variable {G : Gz} {bs : List Str} {k : Nat} {X : Cx} {N : List Str} {nm : List (Str × NameKind)} {ow : Str → Bool} {a b : Expr} {fa fb : Fn Dv} {p p2 pos pos2 : Pos}
end
end Z

/-! # == where a side may raise -/
namespace Z
open PySem PySem.Spec PyProof.Rows L2
section
variable {G : Gz} {bs : List Str} {k : Nat} {X : Cx} {N : List Str} {nm : List (Str × NameKind)} {ow : Str → Bool} {W : WX} {a b : Expr} {fa fb : Fn Dv} {pos : Pos}
end
end Z

/-! # l.index(x) of data of any depth -/
namespace Z
open PySem PySem.Spec PyProof.Rows L2
def gIndexD (x : Dv) (xs : List Dv) (s : Sto) : Rs Dv := match xs with
  | [y] => match pyOf s x, pyOf s y with
    | some (.list ps), some p => Rs.iff (SeqAt.shaped p && SeqAt.shaped (.list ps)) (match ps.findIdx? (fun z => PyData.eqv z p) with | some j => .ok (.int (j : Nat)) s | none => .bad)
    | _, _ => .bad
  | _ => .bad
section
variable {G : Gz} {bs : List Str} {k : Nat} {X : Cx} {N : List Str} {nm : List (Str × NameKind)} {ow : Str → Bool} {o e : Expr} {fo : Fn Dv} {fs : Fn (List Dv)} {apos cpos : Pos}
end
end Z

/-! # range(a, b, c) with a step ahead -/
namespace Z
open PySem PySem.Spec PyProof.Rows L2
def rngUp (lo c : Int) (n : Nat) : List Dv := (List.range n).map fun (i : Nat) => Dv.int (lo + (i : Int) * c)
def rgU (i j c : Int) : Bool := decide (0 ≤ i) && decide (i ≤ 1000000000) && decide (0 ≤ j) && decide (j ≤ 1000000000) && decide (0 < c) && decide (c ≤ 1000000000)
def rgN3 (i j c : Int) : Nat := if i < j then ((j - i - 1) / c + 1).toNat else 0
def fRngU (f : Fn (List Dv)) : Fn Src := fun env s => (f env s).bind fun ds s1 => match ds with | [.int i, .int j, .int c] => Rs.iff (rgU i j c) (.ok (rngUp i c (rgN3 i j c), noChk) s1) | _ => .bad
section
variable {G : Gz} {bs : List Str} {k : Nat} {X : Cx} {N : List Str} {nm : List (Str × NameKind)} {ow : Str → Bool} {q : Bool} {tg : Expr} {fs : Fn (List Dv)} {p pos : Pos}
end
end Z

/-! # t.count(x), t a tuple of flat things -/
namespace Z
open PySem PySem.Spec PyProof.Rows L2
section
variable {X : Cx}
def rCountT (K : PySem.W.Frag) : V → List V → Hp → VK → Prop := fun x xs H Q => ∃ (a : Addr) (ys : List V) (y : V), x = V.ref a ∧ xs = [y] ∧ SqT K H a ys ∧ flatV y = true ∧ ys.all flatV = true ∧ Q (.int ((ys.countP fun z => eqV z y : Nat) : Int)) H
theorem mt_countT : MtR X "tuple.count" (rCountT X.K) := by
  intro pins s σ H x xs v us Q I rx rxs h
  obtain ⟨a, ys, y, rfl, rfl, hs, fy, fys, q⟩ := h
  cases rx
  cases rxs with
  | cons ry rt =>
    rename_i uy ut
    cases rt
    obtain ⟨its, rv, ⟨⟨cls, dd, data, sl⟩, ho, hc, n, hd⟩, hlen⟩ := I.tuple hs
    simp only at hc hd
    subst hc hd
    refine call_meets PySem.F.slot_tuple_count ⟨_, ho, rfl⟩ PySem.F.entry_tuple_count (PySem.F.args_tuple_count_2 _ _)
      (SeqAt.tuple_countAt a its.toArray n dd sl uy (eqU y)) ⟨ho, fun u' hu' => mem_eqAt ry fy rv fys u' (by simpa using hu'), ?_⟩
    have ec : its.toArray.toList.countP (eqU y) = ys.countP fun z => eqV z y := eqU_count rv fys
    refine ⟨.int ((ys.countP fun z => eqV z y : Nat) : Int), H, I.tok _, ⟨s.toks, ?_⟩, q⟩
    show Value.int ((its.toArray.toList.countP (eqU y) : Nat) : Int) s.toks = _
    rw [ec]
end
def gCountT (x : Dv) (xs : List Dv) (s : Sto) : Rs Dv := match x, xs with
  | .tup ds, [y] => match fV y, ds.mapM fV with
    | some u, some us => .ok (.int ((us.countP fun z => eqV z u : Nat) : Int)) s
    | _, _ => .bad
  | _, _ => .bad
theorem mz_countT {K : PySem.W.Frag} : MtZ K (rCountT K) gCountT := by
  intro B H s x xs v vs d s' Q S r rs h q
  unfold gCountT at h
  split at h
  · split at h
    · rename_i u us e1 e2
      cases h
      cases r with
      | tup h1 h2 =>
        cases rs with
        | cons r1 rr =>
          cases rr
          obtain ⟨rfl, f1⟩ := fV_of r1 e1
          obtain ⟨rfl, f2⟩ := fVs_of h2 e2
          exact ⟨_, _, _, rfl, rfl, h1.sq, f1, f2, q.same S (.int _)⟩
    · cases h
  · cases h
section
variable {X : Cx} {o e : Expr} {fo : Fn Dv} {fs : Fn (List Dv)} {apos cpos : Pos}
theorem z_countT (ho : ZE X o fo) (ha : ZA X [e] fs) (hbase : attributeBase o "count" X.env (eval o X.env) = eval o X.env := by rfl) (hline : (apos.endLine == cpos.line) = true := by rfl) (hs : starEach [e] X.env = (false, eval e X.env) :: starEach [] X.env := by rfl) :
    ZE X (.Call (.Attribute o "count" apos) [e] [] cpos) (fMt isT gCountT fo fs) :=
  pe_mono (pe_mtT PySem.F.slot_tuple_count PySem.F.plainAttrs_tuple PySem.F.type_tuple_count mt_countT ho ha hbase (by rw [hs]; rfl) hline hs rfl) (mt_to ty_t mz_countT)
end
end Z

/-! # t[:-3:-1] of a tuple of two or more -/
namespace HT
open PySem PySem.Spec PyProof.Rows
section
variable {prog : Program} {w : World} {A : Around} {E : Value → Shared → Prop} {s : Shared}
theorem adjust_tail {n : Nat} (h : 2 ≤ n) : Builtin.Slice.sliceAdjust none (some (-3)) (-1) (n : Int) = ((n : Int) - 1, (n : Int) - 3) := by
  unfold Builtin.Slice.sliceAdjust
  simp
  omega
theorem tailPlaces (n : Nat) : Builtin.Slice.slicePlaces ((n : Int) - 1) ((n : Int) - 3) (-1) = 2 := by
  unfold Builtin.Slice.slicePlaces
  rw [if_neg (by decide), if_pos (by omega)]
  have : (((n : Int) - 1 - ((n : Int) - 3) - 1) / (- -1)) = 1 := by
    rw [show (- -1 : Int) = 1 by decide, Int.ediv_one]; omega
  rw [this]; rfl
theorem sliceApplied_tail {sl : Addr} {vl vu vs : Value} {n : Nat} {Q : Int × Int × Nat → Shared → Prop} (hn : 2 ≤ n) (hs : s.heap.IsSliceOf sl vl vu vs) (pl : IsPart vl none) (pu : IsPart vu (some (-3))) (ps : IsPart vs (some (-1)))
    (h : Q ((n : Int) - 1, -1, 2) s) : wpAny (model prog w) A (Builtin.Slice.sliceApplied (.ref sl) (pure (n : Int))) Q E s := by
  obtain ⟨os, hos, hcs, hds⟩ := id hs
  unfold Builtin.Slice.sliceApplied Builtin.Slice.sliceFields
  refine wpAny_bind (wpAny_bind (wpAny_field hos hds (x := vl) rfl (wpAny_bind (wpAny_field hos hds (x := vu) rfl (wpAny_bind (wpAny_field hos hds (x := vs) rfl (wpAny_pure ?_)))))))
  refine wpAny_bind (slicePart_ ps ?_)
  show wpAny _ _ (if ((-1 : Int) == 0) = true then _ else _) _ _ s
  rw [if_neg (by decide)]
  refine wpAny_bind (slicePart_ pl (wpAny_bind (slicePart_ pu (wpAny_bind (wpAny_pure ?_)))))
  show wpAny _ _ (pure ((Builtin.Slice.sliceAdjust none (some (-3)) (-1) (n : Int)).1, (-1 : Int), Builtin.Slice.slicePlaces (Builtin.Slice.sliceAdjust none (some (-3)) (-1) (n : Int)).1 (Builtin.Slice.sliceAdjust none (some (-3)) (-1) (n : Int)).2 (-1))) _ _ s
  rw [adjust_tail hn]
  show wpAny _ _ (pure ((n : Int) - 1, (-1 : Int), Builtin.Slice.slicePlaces ((n : Int) - 1) ((n : Int) - 3) (-1))) _ _ s
  rw [tailPlaces]
  exact wpAny_pure h
theorem pick_tail (xs : Array Value) (hn : 2 ≤ xs.size) : ((List.range 2).filterMap fun (m : Nat) => xs[((xs.size : Int) - 1 + (m : Int) * (-1)).toNat]?) = xs.toList.reverse.take 2 := by
  refine List.ext_getElem? fun i => ?_
  have e0 : ((xs.size : Int) - 1 + ((0 : Nat) : Int) * (-1)).toNat = xs.size - 1 := by omega
  have e1 : ((xs.size : Int) - 1 + ((1 : Nat) : Int) * (-1)).toNat = xs.size - 2 := by omega
  have r : List.range 2 = [0, 1] := rfl
  rw [r, List.filterMap_cons, List.filterMap_cons, List.filterMap_nil, e0, e1, Array.getElem?_eq_getElem (by omega), Array.getElem?_eq_getElem (by omega)]
  match i with
  | 0 =>
    rw [List.getElem?_take_of_lt (by decide), List.getElem?_reverse (by simp; omega)]
    simp
  | 1 =>
    rw [List.getElem?_take_of_lt (by decide), List.getElem?_reverse (by simp; omega)]
    have e2 : xs.toList.length - 1 - 1 = xs.size - 2 := by simp; omega
    rw [e2]
    simp
  | i + 2 =>
    rw [List.getElem?_eq_none (by simp), List.getElem?_eq_none (by rw [List.length_take]; omega)]
theorem getItem_tuple_tail {t sl : Addr} {items : Array Value} {vl vu vs : Value} {Q : Value → Shared → Prop} (hn : 2 ≤ items.size) (ht : IsTup s.heap t items) (hs : s.heap.IsSliceOf sl vl vu vs) (pl : IsPart vl none) (pu : IsPart vu (some (-3))) (ps : IsPart vs (some (-1)))
    (h : Q (.ref s.heap.objs.size) { s with heap := s.heap.push { cls := .type "tuple", data := .seq (items.toList.reverse.take 2).toArray } }) (hsz : items.size ≤ sizeLine) : wpAny (model prog w) A (getItem (.ref t) (.ref sl)) Q E s := by
  have htake : sizeOk (.seq (items.toList.reverse.take 2).toArray) := by
    show (items.toList.reverse.take 2).toArray.size ≤ sizeLine
    rw [List.size_toArray, List.length_take]
    omega
  obtain ⟨os, hos, hcs, hds⟩ := id hs
  have hTs : s.TypeIs (.ref sl) "slice" := ⟨os, hos, hcs⟩
  unfold getItem
  try with_reducible refine wpAny_holding ?_
  first | refine wpAny_bind (wpAny_pure ?_) | skip
  refine wpAny_bind (wpAny_sequenceKey ht.typeIs (by decide) ?_)
  refine wpAny_bind (wpAny_callSpecial?_slot (name := Str.ofString "__getitem__") ht.typeIs PyProof.Rows.slot_tuple_getitem
    (wpAny_call_entry PyProof.Rows.slot_tuple_getitem ht.typeIs entry_tuple_getitem ?_ (args_tuple_getitem _ _)))
  show wpAny _ _ (Builtin.Tuple.tupleItemsOf (.ref t) >>= _) _ _ s
  refine wpAny_bind (tupleItemsOf_ ht ?_)
  refine wpAny_bind (wpAny_typeOf hTs ?_)
  rw [if_pos (by decide)]
  refine wpAny_bind (sliceApplied_tail hn hs pl pu ps ?_)
  have hno : ¬ ((((items.size : Int) - 1 == 0) && (-1 : Int) == 1 && 2 == items.size) = true) := by simp
  show wpAny _ _ (if (((items.size : Int) - 1 == 0) && (-1 : Int) == 1 && 2 == items.size) = true then _ else _) _ _ s
  rw [if_neg hno, pick_tail items hn]
  first
    | exact wpAny_bind (m := Builtin.Tuple.tupleExact _) (wpAny_newObj_type (wpAny_pure ⟨_, rfl, wpAny_pure h⟩) htake)
    | exact wpAny_bind (m := Builtin.Tuple.tupleExact _) (wpAny_newObj_type (wpAny_bind (wpAny_pure (wpAny_pure ⟨_, rfl, wpAny_pure h⟩))) htake)
    | exact wpAny_bind (wpAny_bind (m := Builtin.Tuple.tupleExact _) (wpAny_newObj_type (wpAny_pure (wpAny_pure ⟨_, rfl, wpAny_pure h⟩)) htake))
    | exact wpAny_bind (wpAny_bind (m := Builtin.Tuple.tupleExact _) (wpAny_newObj_type (wpAny_pure ⟨_, rfl, wpAny_pure h⟩) htake))
end
end HT
namespace Z
open PySem PySem.Spec PyProof.Rows L2
def tTailT (K : PySem.W.Frag) (te : TE) : TE := fun σ H Q => te σ H fun x H1 => ∃ a xs, x = .ref a ∧ SqT K H1 a xs ∧ 2 ≤ xs.length ∧ ∀ p o, H1 p = none → o.dict = none → Q (.ref p) (upd H1 p (.frz o (.tup (xs.reverse.take 2))))
theorem Vals.takeZ : ∀ {n : Nat} {us : List V} {vs : List Value}, Vals us vs → Vals (us.take n) (vs.take n)
  | 0, _, _, _ => .nil
  | n + 1, _, _, .nil => .nil
  | n + 1, _, _, .cons r rr => .cons r (Vals.takeZ rr)
theorem rps_takeZ {K : PySem.W.Frag} {B : Lo} {H : Hp} : ∀ {n : Nat} {ds : List Dv} {xs : List V}, Rps K B H ds xs → Rps K B H (ds.take n) (xs.take n)
  | 0, _, _, _ => .nil
  | n + 1, _, _, .nil => .nil
  | n + 1, _, _, .cons r rr => .cons r (rps_takeZ rr)
section
variable {X : Cx}
theorem pe_tailT {e : Expr} {te : TE} {k k2 : Nat} {p1 p2 p3 q1 q2 pos : Pos} (he : PE X e te) : PE X (.Subscript e (.Slice none (some (.UnaryOp .USub (.Constant (.int 3) k2 q1) q2)) (some (.UnaryOp .USub (.Constant (.int 1) k p1) p2)) p3) pos) (tTailT X.K te) := by
  refine ⟨fun pins s σ H Q I h => ?_⟩
  refine Subscript_ (thn (he.run pins s σ H _ I h) fun v s1 ⟨x, H1, I1, r1, q1⟩ => ?_)
  obtain ⟨a, xs, ex, hx, hn, q⟩ := q1
  subst ex
  cases r1
  have hst : PO X (some (.UnaryOp .USub (.Constant (.int 1) k p1) p2)) (tPart (tUn (rU fun i => .int (-i)) (tC (.int 1)))) := po_some (pe_un un_neg pe_int)
  have hup : PO X (some (.UnaryOp .USub (.Constant (.int 3) k2 q1) q2)) (tPart (tUn (rU fun i => .int (-i)) (tC (.int 3)))) := po_some (pe_un un_neg pe_int)
  refine wpAny_Slice (thn (po_none.run pins s1 σ H1 (fun o H2 => o = none ∧ H2 = H1) I1 ⟨rfl, rfl⟩) fun vl s2 ⟨l, H2, I2, pl, el, e2⟩ => ?_)
  subst el e2
  refine thn (hup.run pins s2 σ H2 (fun o H3 => o = some (-3) ∧ H3 = H2) I2 ⟨3, rfl, -3, rfl, rfl, rfl⟩) fun vu s3 ⟨u, H3, I3, pu, eu, e3⟩ => ?_
  subst eu e3
  refine thn (hst.run pins s3 σ H3 (fun o H4 => o = some (-1) ∧ H4 = H3) I3 ⟨1, rfl, -1, rfl, rfl, rfl⟩) fun vs s4 ⟨o, H4, I4, ps, eo, e4⟩ => ?_
  subst eo e4
  have I5 : Inv X pins σ H4 { s4 with heap := s4.heap.push { cls := .type "slice", data := .fields #[vl, vu, vs] } } := I4.kept (t' := s4.toks) fun b ob q => Heap.get?_push_of_some _ q
  obtain ⟨its, r, ht, hz⟩ := I5.tuple hx
  have hlen := r.length
  show wpAny (model X.prog X.w) X.A (subscriptTail e (.Slice none (some (.UnaryOp .USub (.Constant (.int 3) k2 _) q2)) (some (.UnaryOp .USub (.Constant (.int 1) k p1) p2)) p3) (.ref a) (.ref s4.heap.objs.size)) (EP X pins σ Q) X.xe { s4 with heap := s4.heap.push { cls := .type "slice", data := .fields #[vl, vu, vs] } }
  refine tail_any (ops := [.ref a, .ref s4.heap.objs.size]) ht.typeIs (PyProof.Rows.slot_tuple_getitem.lookup) ?_ (by with_unfolding_all rfl)
  refine HT.getItem_tuple_tail (by rw [List.size_toArray]; omega) ht (Heap.IsSliceOf.new _ vl vu vs) pl pu ps ?_ (by rw [List.size_toArray]; omega)
  exact tupK_new (t' := s4.toks) I5 (by rw [List.length_take, List.length_reverse]; omega) (by simpa using Vals.takeZ r.reverse) q
end
def fTailT (f : Fn Dv) : Fn Dv := fun env s => (f env s).bind fun x s1 => match x with | .tup ds => Rs.iff (decide (2 ≤ ds.length)) (.ok (.tup (ds.reverse.take 2)) s1) | _ => .bad
section
variable {X : Cx} {e : Expr} {fa : Fn Dv} {pos : Pos}
theorem rps_len {K : PySem.W.Frag} {B : Lo} {H : Hp} : ∀ {ds : List Dv} {xs : List V}, Rps K B H ds xs → ds.length = xs.length
  | _, _, .nil => rfl
  | _, _, .cons _ rr => by rw [List.length_cons, List.length_cons, rps_len rr]
theorem z_tailT {j j2 : Nat} {p1 p2 p3 q1 q2 : Pos} (he : ZE X e fa) : ZE X (.Subscript e (.Slice none (some (.UnaryOp .USub (.Constant (.int 3) j2 q1) q2)) (some (.UnaryOp .USub (.Constant (.int 1) j p1) p2)) p3) pos) (fTailT fa) := by
  refine pe_mono (pe_tailT he) fun σ H Q q => ?_
  obtain ⟨B, env, s, d, s', hE, hS, hf, hQ⟩ := q
  obtain ⟨x, s1, h1, hf⟩ := Rs.bind_ok hf
  refine ⟨B, env, s, _, _, hE, hS, h1, fun B1 H1 v x1 e1 S1 r1 => ?_⟩
  cases x with
  | tup ds =>
    obtain ⟨hn, hf⟩ := Rs.iff_ok hf
    cases hf
    cases r1 with
    | tup h4 h5 => exact ⟨_, _, rfl, h4.sq, by rw [← rps_len h5]; exact of_decide_eq_true hn, fun p o hp hd => new_tup S1 (rps_takeZ (rps_rev h5)) (fun B2 H2 v x2 e2 S2 r2 => hQ B2 H2 v (x1.trans x2) (e2.trans e1) S2 r2) hp hd⟩
  | _ => cases hf
end
end Z

/-! # tuple * int, of any tuple -/
namespace L2
open PySem PySem.Spec PyProof.Rows
theorem tuple_mul_void (l : Addr) (items : Array Value) (n : Nat) (sl : Array (Option Value)) (dd : Option Addr) (k : Int) (u : Tok) (h0 : 0 ≤ k) (h1 : k ≤ 1000) (hi : items.isEmpty = true) :
    Meets (Builtin.«tuple.__mul__» ⟨[.ref l, .int k u], []⟩) (fun _ R s => s.heap.get? l = some { cls := .type "tuple", dict := dd, data := .seq items n, slots := sl } ∧
      R (.ok (.ret (.ref l))) s) :=
  .of_wp fun prog w A R s h => by
    obtain ⟨hp, g, d, tk, os⟩ := s
    obtain ⟨hl, h⟩ := h
    have f1 := AutoSeq1.idx_int
    have c0 : (decide (k < -(2 ^ 63)) || decide (k ≥ 2 ^ 63)) = false := by
      rw [Bool.or_eq_false_iff]
      exact ⟨decide_eq_false (by omega), decide_eq_false (by omega)⟩
    have c1 : (items.isEmpty || k == 1) = true := by rw [hi]; rfl
    wp_walk using wpAny_loadPart' hl
    repeat (first
      | (refine wpAny_ite_false (decide_eq_false (by rw [c0]; exact Bool.false_ne_true)) ?_; wp_walk using wpAny_loadPart' hl)
      | (refine wpAny_ite_true (decide_eq_true c1) ?_; wp_walk using wpAny_loadPart' hl))
    exact ⟨_, rfl, h⟩
end L2
namespace Z
open PySem PySem.Spec PyProof.Rows L2
def rMulV (K : PySem.W.Frag) : R2 := fun x y H Q => ∃ l k, x = .ref l ∧ y = .int k ∧ SqT K H l [] ∧ 0 ≤ k ∧ k ≤ 1000 ∧ Q x H
theorem op_mulV {X : Cx} : OpR X (binaryOp .Mult) (rMulV X.K) := by
  intro pins s σ H x y v u Q I rx ry h
  obtain ⟨l, k, rfl, rfl, hT, k0, k1, q⟩ := h
  cases rx
  obtain ⟨t, rfl⟩ := ry
  obtain ⟨its, r, ⟨⟨cls, dd, data, sl⟩, ho, hc, n, hd⟩, hs⟩ := I.tuple hT
  simp only at hc hd
  subst hc hd
  have hi : its.toArray.isEmpty = true := by
    cases r
    rfl
  refine wpAny_binaryOp_repeat_ref (T := "tuple") (U := "int") (by decide) ⟨_, ho, rfl⟩ (fun s' => typeIs_int s' k t) noFill_tuple_mul F.fills_int_mul F.slot_int_rmul repeat_tuple F.slot_int_index.lookup
    (call_meets F.slot_int_rmul (typeIs_int s k t) F.entry_int_rmul (F.args_int_rmul_2 _ _) (int_rmul_tuple k t l its.toArray n dd sl)
      ⟨ho, rfl, ⟨_, ho, rfl⟩, call_meets F.slot_tuple_mul ⟨_, ho, rfl⟩ F.entry_tuple_mul (F.args_tuple_mul_2 _ _) (tuple_mul_void l its.toArray n sl dd k t k0 k1 hi) ⟨ho, ?_⟩⟩)
  exact ⟨.ref l, H, I, rfl, q⟩
def rTimesV (K : PySem.W.Frag) : R2 := fun x y H Q => rTimesN K x y H Q ∨ rMulV K x y H Q
theorem op_timesV {X : Cx} : OpR X (binaryOp .Mult) (rTimesV X.K) := OpR.or op_timesN op_mulV
def gTimesV (x y : Dv) (s : Sto) : Rs Dv := match x, y with
  | .tup [], .int k => Rs.iff (decide (0 ≤ k) && decide (k ≤ 1000)) (.ok (.tup []) s)
  | x, y => gTimesN x y s
theorem oz_timesV {K : PySem.W.Frag} : OpZ K (rTimesV K) gTimesV := by
  intro B H s x y v w d s' Q S rx ry h q
  unfold gTimesV at h
  split at h
  · obtain ⟨hc, h⟩ := Rs.iff_ok h
    simp only [Bool.and_eq_true, decide_eq_true_eq] at hc
    cases h
    cases ry
    cases rx with
    | tup h5 h6 =>
      cases h6
      exact .inr ⟨_, _, rfl, rfl, h5.sq, hc.1, hc.2, q.same S (.tup h5 .nil)⟩
  · exact .inl (oz_timesN B H s _ _ v w d s' Q S rx ry h q)
section
variable {X : Cx} {a b : Expr} {fa fb : Fn Dv} {pos : Pos}
theorem z_timesV (ha : ZE X a fa) (hb : ZE X b fb) : ZE X (.BinOp a .Mult b pos) (fBin gTimesV fa fb) := z_op op_timesV oz_timesV ha hb
end
end Z

/-! # [n for n in d if d[n] == b], d a dict of texts; dict(d), a copy -/
namespace Z
open PySem PySem.Spec PyProof.Rows L2
def dkV (ks0 : List (Key × V)) (b : Str) : List (Key × V) → Option (List V)
  | [] => some []
  | p :: r => match valV ks0 p.1, dkV ks0 b r with
    | some (.str z), some vs => some (if z == b then kV p.1 :: vs else vs)
    | _, _ => none
def tDk (jd jn jb : Nat) : TE := tLockE (tLc (iKeys (tVar jd)) (gName jn) (tTest (tOp rEq (tDGet (tVar jd) (tVar jn)) (tVar jb))) (tVar jn) [jn])
/-! ### .. as a reading -/
def kD : Key → Dv
  | .inl i => .int i
  | .inr z => .str z
def dkD (kvs0 : List (Key × Dv)) (b : Str) : List (Key × Dv) → Option (List Dv)
  | [] => some []
  | p :: r => match lookK kvs0 p.1, dkD kvs0 b r with
    | some (.str z), some vs => some (if z == b then kD p.1 :: vs else vs)
    | _, _ => none
def fDKe (jd jn jb : Nat) : Fn (List Dv) := fun env s => match env[jd]?, env[jb]? with
  | some (some (.loc n)), some (some (.str b)) => match s[n]? with
    | some (.dk kvs) => if jn < env.length ∧ kvs.length < 16777216 then (match dkD kvs b kvs with | some ds => .ok ds s | none => .bad) else .bad
    | _ => .bad
  | _, _ => .bad
section
variable {G : Gz} {bs : List Str} {k : Nat} {X : Cx} {N : List Str} {nm : List (Str × NameKind)} {ow : Str → Bool} {d n b : Str} {jd jn jb : Nat} {p1 p2 p3 p4 p5 p6 p7 p8 pos : Pos} {scope : Scope}
end
/-! ### dict(d), a copy -/
def gDictC (xs : List Dv) (s : Sto) : Rs Dv := match xs with
  | [.loc n] => match s[n]? with | some (.dk kvs) => .ok (.loc s.length) (s ++ [.dk kvs]) | _ => .bad
  | _ => .bad
section
variable {G : Gz} {bs : List Str} {k : Nat} {X : Cx} {N : List Str} {nm : List (Str × NameKind)} {ow : Str → Bool} {e : Expr} {fs : Fn (List Dv)} {pos p : Pos}
end
end Z

namespace Z
open PySem PySem.Spec PyProof.Rows L2

/-! ### plain laws: what a reading ends in -/
/-- an end, or an error; E: what is asked of the error -/
def OkE {α : Type} (Ex : Dv → Sto → Prop) (r : Rs α) (P : α → Sto → Prop) : Prop := match r with
  | .ok a s => P a s
  | .exc e s => Ex e s
  | .bad => False
/-- no error -/
def nX : Dv → Sto → Prop := fun _ _ => False
abbrev Ok {α : Type} (r : Rs α) (P : α → Sto → Prop) : Prop := OkE nX r P
theorem OkE.get {α : Type} {r : Rs α} {P : α → Sto → Prop} (h : OkE nX r P) : ∃ a s, r = .ok a s ∧ P a s := by
  cases r with
  | ok a s => exact ⟨a, s, rfl, h⟩
  | _ => exact False.elim h
theorem Ok.get {α : Type} {r : Rs α} {P : α → Sto → Prop} (h : Ok r P) : ∃ a s, r = .ok a s ∧ P a s := OkE.get h
theorem OkE.of {α : Type} {E : Dv → Sto → Prop} {r : Rs α} {P : α → Sto → Prop} {a : α} {s : Sto} (h : r = .ok a s) (p : P a s) : OkE E r P := by rw [h]; exact p
theorem Ok.of {α : Type} {r : Rs α} {P : α → Sto → Prop} {a : α} {s : Sto} (h : r = .ok a s) (p : P a s) : Ok r P := OkE.of h p
theorem OkE.mono {α : Type} {E : Dv → Sto → Prop} {r : Rs α} {P Q : α → Sto → Prop} (h : OkE E r P) (hh : ∀ a s, P a s → Q a s) : OkE E r Q := by
  cases r with
  | ok a s => exact hh _ _ h
  | _ => exact h
theorem OkE.mono2 {α : Type} {E F : Dv → Sto → Prop} {r : Rs α} {P Q : α → Sto → Prop} (h : OkE E r P) (hh : ∀ a s, P a s → Q a s) (he : ∀ e s, E e s → F e s) : OkE F r Q := by
  cases r with
  | ok a s => exact hh _ _ h
  | exc e s => exact he _ _ h
  | bad => exact h
theorem Ok.mono {α : Type} {r : Rs α} {P Q : α → Sto → Prop} (h : Ok r P) (hh : ∀ a s, P a s → Q a s) : Ok r Q := OkE.mono h hh
/-- what raises nothing, where an error is asked of, too -/
theorem OkE.up {α : Type} {E : Dv → Sto → Prop} {r : Rs α} {P : α → Sto → Prop} (h : OkE nX r P) : OkE E r P := h.mono2 (fun _ _ h => h) fun _ _ h => False.elim h
variable {Ex : Dv → Sto → Prop}
section
variable {α β : Type} {a : α} {s : Sto} {P : α → Sto → Prop} {Q : β → Sto → Prop} {R : Ct → Sto → Prop} {T : Dv → Sto → Prop} {L : List Dv → Sto → Prop} {B : Bool → Sto → Prop} {env : En}
theorem Y1 : OkE Ex (.ok a s) P ↔ P a s := Iff.rfl
theorem ok_bind {r : Rs α} {f : α → Sto → Rs β} : OkE Ex (r.bind f) Q ↔ OkE Ex r (fun a s => OkE Ex (f a s) Q) := by cases r <;> exact Iff.rfl
theorem ok_iff {c : Bool} {r : Rs α} : OkE Ex (Rs.iff c r) P ↔ c = true ∧ OkE Ex r P := by
  unfold Rs.iff
  split
  · rename_i h; exact ⟨fun x => ⟨h, x⟩, fun x => x.2⟩
  · rename_i h; exact ⟨fun x => False.elim x, fun x => absurd x.1 h⟩
def kDrop (env : En) (R : Ct → Sto → Prop) : Dv → Sto → Prop := fun d s1 => R (.next env) s1
theorem Qf {env : En} {R : Ct → Sto → Prop} {d : Dv} {s1 : Sto} : kDrop env R d s1 = (R (.next env) s1) := rfl
def kRet (R : Ct → Sto → Prop) : Dv → Sto → Prop := fun d s1 => R (.ret d) s1
theorem Qt {R : Ct → Sto → Prop} {d : Dv} {s1 : Sto} : kRet R d s1 = (R (.ret d) s1) := rfl
def kSet (i : Nat) (env : En) (R : Ct → Sto → Prop) : Dv → Sto → Prop := fun d s1 => R (.next (env.set i (some d))) s1
theorem Qu {i : Nat} {env : En} {R : Ct → Sto → Prop} {d : Dv} {s1 : Sto} : kSet i env R d s1 = (R (.next (env.set i (some d))) s1) := rfl
def kCons2 (d : Dv) (L : List Dv → Sto → Prop) : List Dv → Sto → Prop := fun ds s2 => L (d :: ds) s2
theorem Qa {d : Dv} {L : List Dv → Sto → Prop} {ds : List Dv} {s2 : Sto} : kCons2 d L ds s2 = (L (d :: ds) s2) := rfl
def kCons (Ex : Dv → Sto → Prop) (g : Fn (List Dv)) (env : En) (L : List Dv → Sto → Prop) : Dv → Sto → Prop := fun d s1 => OkE Ex (g env s1) (kCons2 d L)
theorem Qg {g : Fn (List Dv)} {env : En} {L : List Dv → Sto → Prop} {d : Dv} {s1 : Sto} : kCons Ex g env L d s1 = (OkE Ex (g env s1) (kCons2 d L)) := rfl
def kTup (T : Dv → Sto → Prop) : List Dv → Sto → Prop := fun ds s1 => decide (ds.length ≤ 16777216) = true ∧ T (.tup ds) s1
theorem Qv {T : Dv → Sto → Prop} {ds : List Dv} {s1 : Sto} : kTup T ds s1 = (decide (ds.length ≤ 16777216) = true ∧ T (.tup ds) s1) := rfl
def kLst (L : List Dv → Sto → Prop) : List Dv → Sto → Prop := fun ds s1 => decide (ds.length ≤ 16777216) = true ∧ L ds s1
theorem Qw {L : List Dv → Sto → Prop} {ds : List Dv} {s1 : Sto} : kLst L ds s1 = (decide (ds.length ≤ 16777216) = true ∧ L ds s1) := rfl
def kVal (T : Dv → Sto → Prop) : List Dv → Sto → Prop := fun ds s1 => T (.ls ds) s1
theorem Qx {T : Dv → Sto → Prop} {ds : List Dv} {s1 : Sto} : kVal T ds s1 = (T (.ls ds) s1) := rfl
def kNew (T : Dv → Sto → Prop) : List Dv → Sto → Prop := fun ds s1 => T (.loc s1.length) (s1 ++ [.lst ds])
theorem Qy {T : Dv → Sto → Prop} {ds : List Dv} {s1 : Sto} : kNew T ds s1 = (T (.loc s1.length) (s1 ++ [.lst ds])) := rfl
def kBin2 (Ex : Dv → Sto → Prop) (g : Dv → Dv → Sto → Rs Dv) (x : Dv) (T : Dv → Sto → Prop) : Dv → Sto → Prop := fun y s2 => OkE Ex (g x y s2) T
theorem Qh {g : Dv → Dv → Sto → Rs Dv} {x : Dv} {T : Dv → Sto → Prop} {y : Dv} {s2 : Sto} : kBin2 Ex g x T y s2 = (OkE Ex (g x y s2) T) := rfl
def kBin (Ex : Dv → Sto → Prop) (g : Dv → Dv → Sto → Rs Dv) (f2 : Fn Dv) (env : En) (T : Dv → Sto → Prop) : Dv → Sto → Prop := fun x s1 => OkE Ex (f2 env s1) (kBin2 Ex g x T)
theorem Qz {g : Dv → Dv → Sto → Rs Dv} {f2 : Fn Dv} {env : En} {T : Dv → Sto → Prop} {x : Dv} {s1 : Sto} : kBin Ex g f2 env T x s1 = (OkE Ex (f2 env s1) (kBin2 Ex g x T)) := rfl
def kUn (Ex : Dv → Sto → Prop) (g : Dv → Sto → Rs Dv) (T : Dv → Sto → Prop) : Dv → Sto → Prop := fun x s1 => OkE Ex (g x s1) T
theorem Jy {g : Dv → Sto → Rs Dv} {T : Dv → Sto → Prop} {x : Dv} {s1 : Sto} : kUn Ex g T x s1 = (OkE Ex (g x s1) T) := rfl
def kCall (Ex : Dv → Sto → Prop) (φ : Phi) (T : Dv → Sto → Prop) : List Dv → Sto → Prop := fun ds s1 => OkE Ex (φ ds s1) T
theorem Qi {φ : Phi} {T : Dv → Sto → Prop} {ds : List Dv} {s1 : Sto} : kCall Ex φ T ds s1 = (OkE Ex (φ ds s1) T) := rfl
def kCallL (Ex : Dv → Sto → Prop) (φ : List Dv → Sto → Rs (List Dv)) (L : List Dv → Sto → Prop) : List Dv → Sto → Prop := fun ds s1 => OkE Ex (φ ds s1) L
theorem Qb {φ : List Dv → Sto → Rs (List Dv)} {L : List Dv → Sto → Prop} {ds : List Dv} {s1 : Sto} : kCallL Ex φ L ds s1 = (OkE Ex (φ ds s1) L) := rfl
def kNotT (B : Bool → Sto → Prop) : Bool → Sto → Prop := fun b s1 => B (!b) s1
theorem Qj {B : Bool → Sto → Prop} {b : Bool} {s1 : Sto} : kNotT B b s1 = (B (!b) s1) := rfl
def kAndT (Ex : Dv → Sto → Prop) (g : Fn Bool) (env : En) (B : Bool → Sto → Prop) : Bool → Sto → Prop := fun b s1 => if b = true then OkE Ex (g env s1) B else B false s1
theorem Qk {g : Fn Bool} {env : En} {B : Bool → Sto → Prop} {b : Bool} {s1 : Sto} : kAndT Ex g env B b s1 = (if b = true then OkE Ex (g env s1) B else B false s1) := rfl
def kOrT (Ex : Dv → Sto → Prop) (g : Fn Bool) (env : En) (B : Bool → Sto → Prop) : Bool → Sto → Prop := fun b s1 => if b = true then B true s1 else OkE Ex (g env s1) B
theorem Q0 {g : Fn Bool} {env : En} {B : Bool → Sto → Prop} {b : Bool} {s1 : Sto} : kOrT Ex g env B b s1 = (if b = true then B true s1 else OkE Ex (g env s1) B) := rfl
def kIf (Ex : Dv → Sto → Prop) (f g : Fn Dv) (env : En) (T : Dv → Sto → Prop) : Bool → Sto → Prop := fun b s1 => if b = true then OkE Ex (f env s1) T else OkE Ex (g env s1) T
theorem Jz {f g : Fn Dv} {env : En} {T : Dv → Sto → Prop} {b : Bool} {s1 : Sto} : kIf Ex f g env T b s1 = (if b = true then OkE Ex (f env s1) T else OkE Ex (g env s1) T) := rfl
def kIfS (Ex : Dv → Sto → Prop) (f g : Fn Ct) (env : En) (R : Ct → Sto → Prop) : Bool → Sto → Prop := fun b s1 => if b = true then OkE Ex (f env s1) R else OkE Ex (g env s1) R
theorem Q1 {f g : Fn Ct} {env : En} {R : Ct → Sto → Prop} {b : Bool} {s1 : Sto} : kIfS Ex f g env R b s1 = (if b = true then OkE Ex (f env s1) R else OkE Ex (g env s1) R) := rfl
def kAnd (Ex : Dv → Sto → Prop) (g : Fn Dv) (env : En) (T : Dv → Sto → Prop) : Bool → Sto → Prop := fun b s1 => if b = true then OkE Ex (g env s1) T else T (.bl false) s1
theorem Q2 {g : Fn Dv} {env : En} {T : Dv → Sto → Prop} {b : Bool} {s1 : Sto} : kAnd Ex g env T b s1 = (if b = true then OkE Ex (g env s1) T else T (.bl false) s1) := rfl
def kOr (Ex : Dv → Sto → Prop) (g : Fn Dv) (env : En) (T : Dv → Sto → Prop) : Bool → Sto → Prop := fun b s1 => if b = true then T (.bl true) s1 else OkE Ex (g env s1) T
theorem J0 {g : Fn Dv} {env : En} {T : Dv → Sto → Prop} {b : Bool} {s1 : Sto} : kOr Ex g env T b s1 = (if b = true then T (.bl true) s1 else OkE Ex (g env s1) T) := rfl
def kNot (T : Dv → Sto → Prop) : Bool → Sto → Prop := fun b s1 => T (.bl (!b)) s1
theorem Q3 {T : Dv → Sto → Prop} {b : Bool} {s1 : Sto} : kNot T b s1 = (T (.bl (!b)) s1) := rfl
def kMt2 (Ex : Dv → Sto → Prop) (g : Dv → List Dv → Sto → Rs Dv) (x : Dv) (T : Dv → Sto → Prop) : List Dv → Sto → Prop := fun xs s2 => OkE Ex (g x xs s2) T
theorem Q4 {g : Dv → List Dv → Sto → Rs Dv} {x : Dv} {T : Dv → Sto → Prop} {xs : List Dv} {s2 : Sto} : kMt2 Ex g x T xs s2 = (OkE Ex (g x xs s2) T) := rfl
def kMt (Ex : Dv → Sto → Prop) (ty : Dv → Sto → Bool) (g : Dv → List Dv → Sto → Rs Dv) (fs : Fn (List Dv)) (env : En) (T : Dv → Sto → Prop) : Dv → Sto → Prop := fun x s1 => ty x s1 = true ∧ OkE Ex (fs env s1) (kMt2 Ex g x T)
theorem J1 {ty : Dv → Sto → Bool} {g : Dv → List Dv → Sto → Rs Dv} {fs : Fn (List Dv)} {env : En} {T : Dv → Sto → Prop} {x : Dv} {s1 : Sto} : kMt Ex ty g fs env T x s1 = (ty x s1 = true ∧ OkE Ex (fs env s1) (kMt2 Ex g x T)) := rfl
def kPut4 (env : En) (R : Ct → Sto → Prop) : Unit → Sto → Prop := fun u s4 => R (.next env) s4
theorem Ql {env : En} {R : Ct → Sto → Prop} {u : Unit} {s4 : Sto} : kPut4 env R u s4 = (R (.next env) s4) := rfl
def kPut3 (Ex : Dv → Sto → Prop) (x d : Dv) (env : En) (R : Ct → Sto → Prop) : Dv → Sto → Prop := fun y s3 => OkE Ex (gPut x y d s3) (kPut4 env R)
theorem Qm {x d : Dv} {env : En} {R : Ct → Sto → Prop} {y : Dv} {s3 : Sto} : kPut3 Ex x d env R y s3 = (OkE Ex (gPut x y d s3) (kPut4 env R)) := rfl
def kPut2 (Ex : Dv → Sto → Prop) (fi : Fn Dv) (d : Dv) (env : En) (R : Ct → Sto → Prop) : Dv → Sto → Prop := fun x s2 => OkE Ex (fi env s2) (kPut3 Ex x d env R)
theorem Qn {fi : Fn Dv} {d : Dv} {env : En} {R : Ct → Sto → Prop} {x : Dv} {s2 : Sto} : kPut2 Ex fi d env R x s2 = (OkE Ex (fi env s2) (kPut3 Ex x d env R)) := rfl
def kPut (Ex : Dv → Sto → Prop) (fo fi : Fn Dv) (env : En) (R : Ct → Sto → Prop) : Dv → Sto → Prop := fun d s1 => OkE Ex (fo env s1) (kPut2 Ex fi d env R)
theorem Q5 {fo fi : Fn Dv} {env : En} {R : Ct → Sto → Prop} {d : Dv} {s1 : Sto} : kPut Ex fo fi env R d s1 = (OkE Ex (fo env s1) (kPut2 Ex fi d env R)) := rfl
def kExt2 (Ex : Dv → Sto → Prop) (x : Dv) (T : Dv → Sto → Prop) : List Dv → Sto → Prop := fun es s2 => OkE Ex (gExtend x [.ls es] s2) T
theorem Qo {x : Dv} {T : Dv → Sto → Prop} {es : List Dv} {s2 : Sto} : kExt2 Ex x T es s2 = (OkE Ex (gExtend x [.ls es] s2) T) := rfl
def kExt (Ex : Dv → Sto → Prop) (fl : Fn (List Dv)) (env : En) (T : Dv → Sto → Prop) : Dv → Sto → Prop := fun x s1 => isL x s1 = true ∧ OkE Ex (fl env s1) (kExt2 Ex x T)
theorem Q6 {fl : Fn (List Dv)} {env : En} {T : Dv → Sto → Prop} {x : Dv} {s1 : Sto} : kExt Ex fl env T x s1 = (isL x s1 = true ∧ OkE Ex (fl env s1) (kExt2 Ex x T)) := rfl
def kAsg2 (R : Ct → Sto → Prop) : En → Sto → Prop := fun env1 s2 => R (.next env1) s2
theorem Qp {R : Ct → Sto → Prop} {env1 : En} {s2 : Sto} : kAsg2 R env1 s2 = (R (.next env1) s2) := rfl
def kAsg (Ex : Dv → Sto → Prop) (g : Dv → Fn En) (env : En) (R : Ct → Sto → Prop) : Dv → Sto → Prop := fun d s1 => OkE Ex (g d env s1) (kAsg2 R)
theorem Q7 {g : Dv → Fn En} {env : En} {R : Ct → Sto → Prop} {d : Dv} {s1 : Sto} : kAsg Ex g env R d s1 = (OkE Ex (g d env s1) (kAsg2 R)) := rfl
def kFor (Ex : Dv → Sto → Prop) (g : Dv → Fn En) (b : Fn Ct) (env : En) (R : Ct → Sto → Prop) : Src → Sto → Prop := fun src s1 => OkE Ex (loopZ src.2 g b src.1 env s1) R
theorem Q8 {g : Dv → Fn En} {b : Fn Ct} {env : En} {R : Ct → Sto → Prop} {src : Src} {s1 : Sto} : kFor Ex g b env R src s1 = (OkE Ex (loopZ src.2 g b src.1 env s1) R) := rfl
def kLc (Ex : Dv → Sto → Prop) (own : List Nat) (g : Dv → Fn En) (tt : Fn Bool) (te : Fn Dv) (env : En) (L : List Dv → Sto → Prop) : Src → Sto → Prop := fun src s1 => decide (src.1.length < 16777216) = true ∧ OkE Ex (lcZ src.2 own g tt te src.1 env s1) L
theorem J2 {own : List Nat} {g : Dv → Fn En} {tt : Fn Bool} {te : Fn Dv} {env : En} {L : List Dv → Sto → Prop} {src : Src} {s1 : Sto} : kLc Ex own g tt te env L src s1 = (decide (src.1.length < 16777216) = true ∧ OkE Ex (lcZ src.2 own g tt te src.1 env s1) L) := rfl
def kSl3 (Ex : Dv → Sto → Prop) (x : Dv) (lo : Option Int) (T : Dv → Sto → Prop) : Option Int → Sto → Prop := fun hi s3 => OkE Ex (gSl x lo hi s3) T
theorem Q9 {x : Dv} {lo : Option Int} {T : Dv → Sto → Prop} {hi : Option Int} {s3 : Sto} : kSl3 Ex x lo T hi s3 = (OkE Ex (gSl x lo hi s3) T) := rfl
def kSl2 (Ex : Dv → Sto → Prop) (x : Dv) (h : Fn (Option Int)) (env : En) (T : Dv → Sto → Prop) : Option Int → Sto → Prop := fun lo s2 => OkE Ex (h env s2) (kSl3 Ex x lo T)
theorem Ja {x : Dv} {h : Fn (Option Int)} {env : En} {T : Dv → Sto → Prop} {lo : Option Int} {s2 : Sto} : kSl2 Ex x h env T lo s2 = (OkE Ex (h env s2) (kSl3 Ex x lo T)) := rfl
def kSl (Ex : Dv → Sto → Prop) (l h : Fn (Option Int)) (env : En) (T : Dv → Sto → Prop) : Dv → Sto → Prop := fun x s1 => OkE Ex (l env s1) (kSl2 Ex x h env T)
theorem J3 {l h : Fn (Option Int)} {env : En} {T : Dv → Sto → Prop} {x : Dv} {s1 : Sto} : kSl Ex l h env T x s1 = (OkE Ex (l env s1) (kSl2 Ex x h env T)) := rfl
def kGs (Ex : Dv → Sto → Prop) (h : List Dv → Fn En) (r : List Dv) (E : En → Sto → Prop) : En → Sto → Prop := fun env1 s1 => OkE Ex (h r env1 s1) E
theorem J4 {h : List Dv → Fn En} {r : List Dv} {E : En → Sto → Prop} {env1 : En} {s1 : Sto} : kGs Ex h r E env1 s1 = (OkE Ex (h r env1 s1) E) := rfl
/-- behind a statement -/
def sq (Ex : Dv → Sto → Prop) (g : Fn Ct) (R : Ct → Sto → Prop) : Ct → Sto → Prop
  | .next e, s => OkE Ex (g e s) R
  | c, s => R c s
theorem Jb {g : Fn Ct} : sq Ex g R (.next env) s = OkE Ex (g env s) R := rfl
theorem J6 {g : Fn Ct} {d : Dv} : sq Ex g R (.ret d) s = R (.ret d) s := rfl
theorem J7 {g : Fn Ct} : sq Ex g R (.brk env) s = R (.brk env) s := rfl
theorem Jc {g : Fn Ct} : sq Ex g R (.cont env) s = R (.cont env) s := rfl
theorem J5 {f g : Fn Ct} : OkE Ex (fSeq f g env s) R ↔ OkE Ex (f env s) (sq Ex g R) := by
  unfold fSeq
  rw [ok_bind]
  cases f env s with
  | ok c s1 => cases c <;> exact Iff.rfl
  | _ => exact Iff.rfl
theorem J8 : OkE Ex (fNop env s) R ↔ R (.next env) s := Iff.rfl
theorem J9 : OkE Ex (fBrk env s) R ↔ R (.brk env) s := Iff.rfl
theorem Jd : OkE Ex (fCont env s) R ↔ R (.cont env) s := Iff.rfl
theorem Je {f : Fn Dv} : OkE Ex (fDrop f env s) R ↔ OkE Ex (f env s) (kDrop env R) := ok_bind
theorem Ya {f : Fn Dv} : OkE Ex (fRet f env s) R ↔ OkE Ex (f env s) (kRet R) := ok_bind
theorem Jf : OkE Ex (fRetN env s) R ↔ R (.ret .non) s := Iff.rfl
theorem Yb {i : Nat} {f : Fn Dv} : OkE Ex (fSet i f env s) R ↔ OkE Ex (f env s) (kSet i env R) := ok_bind
theorem Jg {d : Dv} {r : En} : OkE Ex (fVar 0 (some d :: r) s) T ↔ T d s := Iff.rfl
theorem Jh {i : Nat} {x : Option Dv} {r : En} : OkE Ex (fVar (i + 1) (x :: r) s) T ↔ OkE Ex (fVar i r s) T := by
  unfold fVar; simp only [List.getElem?_cons_succ]
theorem Y8 {d : Dv} : OkE Ex (fC d env s) T ↔ T d s := Iff.rfl
theorem Yc : OkE Ex (fNil env s) L ↔ L [] s := Iff.rfl
theorem Ji {f : Fn Dv} {g : Fn (List Dv)} : OkE Ex (fCons f g env s) L ↔ OkE Ex (f env s) (kCons Ex g env L) := by
  unfold fCons; rw [ok_bind]
  refine ⟨fun h => h.mono fun _ _ h => ok_bind.mp h, fun h => h.mono fun _ _ h => ok_bind.mpr h⟩
theorem Yd {f : Fn (List Dv)} : OkE Ex (fTup f env s) T ↔ OkE Ex (f env s) (kTup T) := by
  unfold fTup; rw [ok_bind]
  exact ⟨fun h => h.mono fun _ _ h => ok_iff.mp h, fun h => h.mono fun _ _ h => ok_iff.mpr h⟩
theorem Ye {f : Fn (List Dv)} : OkE Ex (fLst f env s) L ↔ OkE Ex (f env s) (kLst L) := by
  unfold fLst; rw [ok_bind]
  exact ⟨fun h => h.mono fun _ _ h => ok_iff.mp h, fun h => h.mono fun _ _ h => ok_iff.mpr h⟩
theorem Yf {f : Fn (List Dv)} : OkE Ex (fVal f env s) T ↔ OkE Ex (f env s) (kVal T) := ok_bind
theorem Yg {f : Fn (List Dv)} : OkE Ex (fNew f env s) T ↔ OkE Ex (f env s) (kNew T) := ok_bind
theorem Yh {g : Dv → Dv → Sto → Rs Dv} {f1 f2 : Fn Dv} : OkE Ex (fBin g f1 f2 env s) T ↔ OkE Ex (f1 env s) (kBin Ex g f2 env T) := by
  unfold fBin; rw [ok_bind]
  refine ⟨fun h => h.mono fun _ _ h => ok_bind.mp h, fun h => h.mono fun _ _ h => ok_bind.mpr h⟩
theorem Y2 {g : Dv → Sto → Rs Dv} {f1 : Fn Dv} : OkE Ex (fUn g f1 env s) T ↔ OkE Ex (f1 env s) (kUn Ex g T) := ok_bind
theorem Jj {φ : Phi} {f : Fn (List Dv)} : OkE Ex (fCall φ f env s) T ↔ OkE Ex (f env s) (kCall Ex φ T) := ok_bind
theorem Qq {φ : List Dv → Sto → Rs (List Dv)} {f : Fn (List Dv)} : OkE Ex (fCallL φ f env s) L ↔ OkE Ex (f env s) (kCallL Ex φ L) := ok_bind
/-- a truth -/
def tst (B : Bool → Sto → Prop) : Dv → Sto → Prop
  | .bl b, s => B b s
  | _, _ => False
theorem Yi {b : Bool} : tst B (.bl b) s = B b s := rfl
theorem Jk {f : Fn Dv} : OkE Ex (fTest f env s) B ↔ OkE Ex (f env s) (tst B) := by
  unfold fTest; rw [ok_bind]
  cases f env s with
  | ok c s1 => cases c <;> exact Iff.rfl
  | _ => exact Iff.rfl
theorem Jl {f : Fn Bool} : OkE Ex (fNotT f env s) B ↔ OkE Ex (f env s) (kNotT B) := ok_bind
theorem Jm {f g : Fn Bool} : OkE Ex (fAndT f g env s) B ↔ OkE Ex (f env s) (kAndT Ex g env B) := by
  unfold fAndT; rw [ok_bind]
  refine ⟨fun h => h.mono fun b _ h => ?_, fun h => h.mono fun b _ h => ?_⟩ <;> cases b <;> exact h
theorem Yj {f g : Fn Bool} : OkE Ex (fOrT f g env s) B ↔ OkE Ex (f env s) (kOrT Ex g env B) := by
  unfold fOrT; rw [ok_bind]
  refine ⟨fun h => h.mono fun b _ h => ?_, fun h => h.mono fun b _ h => ?_⟩ <;> cases b <;> exact h
theorem Y3 {t : Fn Bool} {f g : Fn Dv} : OkE Ex (fIf t f g env s) T ↔ OkE Ex (t env s) (kIf Ex f g env T) := by
  unfold fIf; rw [ok_bind]
  refine ⟨fun h => h.mono fun b _ h => ?_, fun h => h.mono fun b _ h => ?_⟩ <;> cases b <;> exact h
theorem Yk {t : Fn Bool} {f g : Fn Ct} : OkE Ex (fIfS t f g env s) R ↔ OkE Ex (t env s) (kIfS Ex f g env R) := by
  unfold fIfS; rw [ok_bind]
  refine ⟨fun h => h.mono fun b _ h => ?_, fun h => h.mono fun b _ h => ?_⟩ <;> cases b <;> exact h
theorem Yl {f g : Fn Dv} : OkE Ex (fAnd f g env s) T ↔ OkE Ex (fTest f env s) (kAnd Ex g env T) := by
  unfold fAnd; rw [ok_bind]
  refine ⟨fun h => h.mono fun b _ h => ?_, fun h => h.mono fun b _ h => ?_⟩ <;> cases b <;> exact h
theorem Y4 {f g : Fn Dv} : OkE Ex (fOr f g env s) T ↔ OkE Ex (fTest f env s) (kOr Ex g env T) := by
  unfold fOr; rw [ok_bind]
  refine ⟨fun h => h.mono fun b _ h => ?_, fun h => h.mono fun b _ h => ?_⟩ <;> cases b <;> exact h
theorem Ym {f : Fn Dv} : OkE Ex (fNot f env s) T ↔ OkE Ex (fTest f env s) (kNot T) := ok_bind
theorem Y5 {ty : Dv → Sto → Bool} {g : Dv → List Dv → Sto → Rs Dv} {fo : Fn Dv} {fs : Fn (List Dv)} : OkE Ex (fMt ty g fo fs env s) T ↔ OkE Ex (fo env s) (kMt Ex ty g fs env T) := by
  unfold fMt; rw [ok_bind]
  refine ⟨fun h => h.mono fun _ _ h => ?_, fun h => h.mono fun _ _ h => ?_⟩
  · rw [ok_iff, ok_bind] at h; exact h
  · rw [ok_iff, ok_bind]; exact h
theorem Yn {fo fi fv : Fn Dv} : OkE Ex (fPut fo fi fv env s) R ↔ OkE Ex (fv env s) (kPut Ex fo fi env R) := by
  unfold fPut; rw [ok_bind]
  refine ⟨fun h => h.mono fun _ _ h => (ok_bind.mp h).mono fun _ _ h => (ok_bind.mp h).mono fun _ _ h => ok_bind.mp h, fun h => h.mono fun _ _ h => ok_bind.mpr (h.mono fun _ _ h => ok_bind.mpr (h.mono fun _ _ h => ok_bind.mpr h))⟩
theorem Qc {fo : Fn Dv} {fl : Fn (List Dv)} : OkE Ex (fExtend fo fl env s) T ↔ OkE Ex (fo env s) (kExt Ex fl env T) := by
  unfold fExtend; rw [ok_bind]
  refine ⟨fun h => h.mono fun _ _ h => ?_, fun h => h.mono fun _ _ h => ?_⟩
  · rw [ok_iff, ok_bind] at h; exact h
  · rw [ok_iff, ok_bind]; exact h
/-- both hands of a parallel assignment -/
def pr2 (i j : Nat) (env : En) (R : Ct → Sto → Prop) : List Dv → Sto → Prop := fun ds s => match ds with
  | [d, e] => R (.next ((env.set i (some d)).set j (some e))) s
  | _ => False
theorem Yo {i j : Nat} {d e : Dv} : pr2 i j env R [d, e] s = R (.next ((env.set i (some d)).set j (some e))) s := rfl
theorem Jn {i j : Nat} {f : Fn (List Dv)} : OkE Ex (fPar2 i j f env s) R ↔ OkE Ex (f env s) (pr2 i j env R) := by
  unfold fPar2; rw [ok_bind]
  cases f env s with
  | ok ds s1 =>
    show OkE Ex (match ds with | [d, e] => _ | _ => _) R ↔ pr2 i j env R ds s1
    unfold pr2
    split <;> exact Iff.rfl
  | _ => exact Iff.rfl
theorem Yp {f : Fn Dv} {g : Dv → Fn En} : OkE Ex (fAsg f g env s) R ↔ OkE Ex (f env s) (kAsg Ex g env R) := by
  unfold fAsg; rw [ok_bind]
  refine ⟨fun h => h.mono fun _ _ h => ok_bind.mp h, fun h => h.mono fun _ _ h => ok_bind.mpr h⟩
theorem Yq {fi : Fn Src} {g : Dv → Fn En} {b : Fn Ct} : OkE Ex (fFor fi g b env s) R ↔ OkE Ex (fi env s) (kFor Ex g b env R) := ok_bind
theorem Y6 {fi : Fn Src} {own : List Nat} {g : Dv → Fn En} {tt : Fn Bool} {te : Fn Dv} : OkE Ex (fLc fi own g tt te env s) L ↔ OkE Ex (fi env s) (kLc Ex own g tt te env L) := by
  unfold fLc; rw [ok_bind]
  exact ⟨fun h => h.mono fun _ _ h => ok_iff.mp h, fun h => h.mono fun _ _ h => ok_iff.mpr h⟩
theorem Yr : OkE Ex (fYes env s) B ↔ B true s := Iff.rfl
theorem Qd {O : Option Int → Sto → Prop} : OkE Ex (fNoPart env s) O ↔ O none s := Iff.rfl
def prt (O : Option Int → Sto → Prop) : Dv → Sto → Prop
  | .int i, s => O (some i) s
  | _, _ => False
theorem Jo {O : Option Int → Sto → Prop} {i : Int} : prt O (.int i) s = O (some i) s := rfl
theorem Jp {O : Option Int → Sto → Prop} {f : Fn Dv} : OkE Ex (fPart f env s) O ↔ OkE Ex (f env s) (prt O) := by
  unfold fPart; rw [ok_bind]
  cases f env s with
  | ok c s1 => cases c <;> exact Iff.rfl
  | _ => exact Iff.rfl
theorem Y7 {f : Fn Dv} {l h : Fn (Option Int)} : OkE Ex (fSl f l h env s) T ↔ OkE Ex (f env s) (kSl Ex l h env T) := by
  unfold fSl; rw [ok_bind]
  refine ⟨fun h => h.mono fun _ _ h => (ok_bind.mp h).mono fun _ _ h => ok_bind.mp h, fun h => h.mono fun _ _ h => ok_bind.mpr (h.mono fun _ _ h => ok_bind.mpr h)⟩
theorem Ys {i : Nat} {d : Dv} {E : En → Sto → Prop} : OkE Ex (gNm i d env s) E ↔ E (env.set i (some d)) s := Iff.rfl
theorem Yt {n : Nat} {h : List Dv → Fn En} {ds : List Dv} {E : En → Sto → Prop} : OkE Ex (gTp n h (.tup ds) env s) E ↔ (ds.length == n) = true ∧ OkE Ex (h ds env s) E := ok_iff
theorem Yu {E : En → Sto → Prop} : OkE Ex (gsNil [] env s) E ↔ E env s := Iff.rfl
theorem Yv {g : Dv → Fn En} {h : List Dv → Fn En} {d : Dv} {r : List Dv} {E : En → Sto → Prop} : OkE Ex (gsCons g h (d :: r) env s) E ↔ OkE Ex (g d env s) (kGs Ex h r E) := ok_bind
/-- behind a range's bound -/
def rg1 (S : Src → Sto → Prop) : List Dv → Sto → Prop := fun ds s => match ds with
  | [.int j] => inRng j = true ∧ S (rngD 0 j.toNat, noChk) s
  | _ => False
def rg2 (S : Src → Sto → Prop) : List Dv → Sto → Prop := fun ds s => match ds with
  | [.int i, .int j] => (inRng i && inRng j) = true ∧ S (rngD i (j - i).toNat, noChk) s
  | _ => False
theorem Yw {S : Src → Sto → Prop} {j : Int} : rg1 S [.int j] s = (inRng j = true ∧ S (rngD 0 j.toNat, noChk) s) := rfl
theorem Yx {S : Src → Sto → Prop} {i j : Int} : rg2 S [.int i, .int j] s = ((inRng i && inRng j) = true ∧ S (rngD i (j - i).toNat, noChk) s) := rfl
theorem Jq {S : Src → Sto → Prop} {f : Fn (List Dv)} : OkE Ex (fRng1 f env s) S ↔ OkE Ex (f env s) (rg1 S) := by
  unfold fRng1; rw [ok_bind]
  cases f env s with
  | ok ds s1 =>
    show OkE Ex (match ds with | [.int j] => _ | _ => _) S ↔ rg1 S ds s1
    unfold rg1
    split
    · exact ok_iff
    · exact Iff.rfl
  | _ => exact Iff.rfl
theorem Jr {S : Src → Sto → Prop} {f : Fn (List Dv)} : OkE Ex (fRng2 f env s) S ↔ OkE Ex (f env s) (rg2 S) := by
  unfold fRng2; rw [ok_bind]
  cases f env s with
  | ok ds s1 =>
    show OkE Ex (match ds with | [.int i, .int j] => _ | _ => _) S ↔ rg2 S ds s1
    unfold rg2
    split
    · exact ok_iff
    · exact Iff.rfl
  | _ => exact Iff.rfl
def srcK (Ex : Dv → Sto → Prop) (S : Src → Sto → Prop) : Dv → Sto → Prop := fun d s => match d with
  | .tup ds => S (ds, noChk) s
  | .ls ds => S (ds, noChk) s
  | .loc n => OkE Ex (match s[n]? with | some (.lst ds) => .ok (ds, isLst n ds) s | _ => .bad) S
  | _ => False
theorem Qr {S : Src → Sto → Prop} {ds : List Dv} : srcK Ex S (.tup ds) s = S (ds, noChk) s := rfl
theorem Js {S : Src → Sto → Prop} {ds : List Dv} : srcK Ex S (.ls ds) s = S (ds, noChk) s := rfl
theorem Yy {S : Src → Sto → Prop} {f : Fn Dv} : OkE Ex (fSrc f env s) S ↔ OkE Ex (f env s) (srcK Ex S) := by
  unfold fSrc; rw [ok_bind]
  cases f env s with
  | ok c s1 => cases c <;> exact Iff.rfl
  | _ => exact Iff.rfl

/-! ### loops by an invariant -/
theorem ok_loop {chk : Sto → Bool} {g : Dv → Fn En} {b : Fn Ct} {ds : List Dv} (I : Nat → En → Sto → Prop) (hc : ∀ i env s, I i env s → chk s = true)
    (step : ∀ i d env s, ds[i]? = some d → I i env s → OkE Ex (g d env s) fun env1 s1 => OkE Ex (b env1 s1) fun c s2 => match c with
      | .next e => I (i + 1) e s2
      | .cont e => I (i + 1) e s2
      | .brk e => R (.next e) s2
      | .ret r => R (.ret r) s2)
    (fin : ∀ env s, I ds.length env s → R (.next env) s) (h0 : I 0 env s) : OkE Ex (loopZ chk g b ds env s) R := by
  have go : ∀ (l : List Dv) (i : Nat) (env : En) (s : Sto), ds.drop i = l → i + l.length = ds.length → I i env s → OkE Ex (loopZ chk g b l env s) R := by
    intro l
    induction l with
    | nil =>
      intro i env s _ hl h
      show OkE Ex (Rs.iff _ _) R
      rw [ok_iff]
      refine ⟨hc _ _ _ h, ?_⟩
      have : i = ds.length := by simpa using hl
      subst this
      exact fin _ _ h
    | cons d l ih =>
      intro i env s hd hl h
      show OkE Ex (Rs.iff _ _) R
      rw [ok_iff, ok_bind]
      refine ⟨hc _ _ _ h, ?_⟩
      have hi : ds[i]? = some d := by
        have : (ds.drop i)[0]? = some d := by rw [hd]; rfl
        rwa [List.getElem?_drop, Nat.add_zero] at this
      refine (step i d env s hi h).mono fun env1 s1 h1 => ?_
      rw [ok_bind]
      refine h1.mono fun c s2 h2 => ?_
      have hd' : ds.drop (i + 1) = l := by
        rw [← List.drop_drop, hd]; rfl
      have hl' : i + 1 + l.length = ds.length := by rw [← hl, List.length_cons]; omega
      cases c with
      | next e => exact ih (i + 1) e s2 hd' hl' h2
      | cont e => exact ih (i + 1) e s2 hd' hl' h2
      | brk e => exact h2
      | ret r => exact h2
  exact go ds 0 env s rfl (by simp) h0
theorem ok_lcI {chk : Sto → Bool} {own : List Nat} {g : Dv → Fn En} {tt : Fn Bool} {te : Fn Dv} {ds : List Dv} (I : Nat → List Dv → Sto → Prop) (hc : ∀ i acc s, I i acc s → chk s = true)
    (step : ∀ i d acc s, ds[i]? = some d → I i acc s → OkE Ex (g d (wipeZ env own) s) fun env1 s1 => OkE Ex (tt env1 s1) fun b s2 => if b = true then OkE Ex (te env1 s2) fun y s3 => I (i + 1) (acc ++ [y]) s3 else I (i + 1) acc s2)
    (fin : ∀ acc s, I ds.length acc s → L acc s) (h0 : I 0 [] s) : OkE Ex (lcZ chk own g tt te ds env s) L := by
  have go : ∀ (l : List Dv) (i : Nat) (acc : List Dv) (s : Sto), ds.drop i = l → i + l.length = ds.length → I i acc s → OkE Ex (lcZ chk own g tt te l env s) fun ys s => L (acc ++ ys) s := by
    intro l
    induction l with
    | nil =>
      intro i acc s _ hl h
      show OkE Ex (Rs.iff _ _) _
      rw [ok_iff]
      refine ⟨hc _ _ _ h, ?_⟩
      have : i = ds.length := by simpa using hl
      subst this
      show L (acc ++ []) s
      rw [List.append_nil]; exact fin _ _ h
    | cons d l ih =>
      intro i acc s hd hl h
      show OkE Ex (Rs.iff _ _) _
      rw [ok_iff, ok_bind]
      refine ⟨hc _ _ _ h, ?_⟩
      have hi : ds[i]? = some d := by
        have : (ds.drop i)[0]? = some d := by rw [hd]; rfl
        rwa [List.getElem?_drop, Nat.add_zero] at this
      refine (step i d acc s hi h).mono fun env1 s1 h1 => ?_
      rw [ok_bind]
      refine h1.mono fun c s2 h2 => ?_
      have hd' : ds.drop (i + 1) = l := by
        rw [← List.drop_drop, hd]; rfl
      have hl' : i + 1 + l.length = ds.length := by rw [← hl, List.length_cons]; omega
      cases c with
      | true =>
        rw [if_pos rfl] at h2 ⊢
        rw [ok_bind]
        refine h2.mono fun y s3 h3 => ?_
        rw [ok_bind]
        refine (ih (i + 1) _ s3 hd' hl' h3).mono fun ys s4 h4 => ?_
        show L (acc ++ (y :: ys)) s4
        have e : acc ++ [y] ++ ys = acc ++ (y :: ys) := by rw [List.append_assoc]; rfl
        rw [← e]; exact h4
      | false =>
        rw [if_neg Bool.false_ne_true] at h2 ⊢
        exact ih (i + 1) acc s2 hd' hl' h2
  exact (go ds 0 [] s rfl (by simp) h0).mono fun ys s h => by simpa using h

/-! ### defs -/
def finK (Ex : Dv → Sto → Prop) (b : Nat) (T : Dv → Sto → Prop) : Ct → Sto → Prop
  | .next _, s => OkE Ex (gcZ b .non s) T
  | .ret d, s => OkE Ex (gcZ b d s) T
  | _, _ => False
theorem Qe {b : Nat} : finK Ex b T (.next env) s = OkE Ex (gcZ b .non s) T := rfl
theorem Qs {b : Nat} {d : Dv} : finK Ex b T (.ret d) s = OkE Ex (gcZ b d s) T := rfl
theorem ok_def {n m : Nat} {body : Fn Ct} {ds : List Dv} : OkE Ex (fDef n m body ds s) T ↔ (ds.length == n) = true ∧ OkE Ex (body (ds.map some ++ List.replicate (m - n) none) s) (finK Ex s.length T) := by
  unfold fDef
  rw [ok_iff, ok_bind]
  refine and_congr_right fun _ => ?_
  cases body (ds.map some ++ List.replicate (m - n) none) s with
  | ok c s1 => cases c <;> exact Iff.rfl
  | _ => exact Iff.rfl
mutual
theorem below_mono {a b : Nat} (h : a ≤ b) : ∀ {d : Dv}, below a d = true → below b d = true
  | .tup ds, e => by simp only [below] at e ⊢; exact belows_mono h e
  | .ls ds, e => by simp only [below] at e ⊢; exact belows_mono h e
  | .loc n, e => by simp only [below, decide_eq_true_eq] at e ⊢; omega
  | .non, _ => rfl
  | .bl _, _ => rfl
  | .int _, _ => rfl
  | .str _, _ => rfl
  | .xn _ _ _ fs, e => by simp only [below] at e ⊢; exact belows_mono h e
theorem belows_mono {a b : Nat} (h : a ≤ b) : ∀ {ds : List Dv}, belows a ds = true → belows b ds = true
  | [], _ => rfl
  | d :: r, e => by
    simp only [belows, Bool.and_eq_true] at e ⊢
    exact ⟨below_mono h e.1, belows_mono h e.2⟩
end
theorem belowO_mono {a b : Nat} (h : a ≤ b) {o : Ob} (e : belowO a o = true) : belowO b o = true := by
  cases o with
  | lst ds => exact belows_mono h e
  | dk kvs => exact List.all_eq_true.mpr fun p hp => below_mono h (List.all_eq_true.mp e p hp)
  | dt kvs => exact List.all_eq_true.mpr fun p hp => below_mono h (List.all_eq_true.mp e p hp)
/-- nothing of the store is named in what lies in the store -/
def Fl (s : Sto) : Prop := ∀ o ∈ s, belowO 0 o = true
theorem ok_gc {b l : Sto} {n : Nat} {d : Dv} (hn : b.length = n) (hb : Fl b) (hd : below n d = true) (h : T d b) : OkE Ex (gcZ n d (b ++ l)) T := by
  subst hn
  have ht : (b ++ l).take b.length = b := by simp
  have hk : keepsZ b.length (b ++ l) = true := by
    unfold keepsZ; rw [ht]
    exact List.all_eq_true.mpr fun o ho => belowO_mono (Nat.zero_le _) (hb o ho)
  unfold gcZ
  rw [hd, hk, ht]
  exact h
theorem ok_gc0 {b : Sto} {n : Nat} {d : Dv} (hn : b.length = n) (hb : Fl b) (hd : below n d = true) (h : T d b) : OkE Ex (gcZ n d b) T := by
  have := ok_gc (Ex := Ex) (l := []) hn hb hd h
  rwa [List.append_nil] at this
end
end Z

namespace Z
open PySem PySem.Spec PyProof.Rows L2

/-! ### the tap -/
structure Tap where
  cells : List Int
  spot : Int
  rest : Int
  calls : Int
def tapOb (t : Tap) : Ob := .dk [(.inr (Str.ofString "cells"), .ls (t.cells.map .int)), (.inr (Str.ofString "spot"), .int t.spot), (.inr (Str.ofString "rest"), .int t.rest), (.inr (Str.ofString "calls"), .int t.calls)]
theorem tap_cells {t : Tap} {r : Sto} : gIx (.loc 0) (.str (Str.ofString "cells")) (tapOb t :: r) = .ok (.ls (t.cells.map .int)) (tapOb t :: r) := by rfl
theorem tap_spot {t : Tap} {r : Sto} : gIx (.loc 0) (.str (Str.ofString "spot")) (tapOb t :: r) = .ok (.int t.spot) (tapOb t :: r) := by rfl
theorem tap_rest {t : Tap} {r : Sto} : gIx (.loc 0) (.str (Str.ofString "rest")) (tapOb t :: r) = .ok (.int t.rest) (tapOb t :: r) := by rfl
theorem tap_calls {t : Tap} {r : Sto} : gIx (.loc 0) (.str (Str.ofString "calls")) (tapOb t :: r) = .ok (.int t.calls) (tapOb t :: r) := by rfl
theorem put_calls {t : Tap} {r : Sto} {i : Int} : gPut (.loc 0) (.str (Str.ofString "calls")) (.int i) (tapOb t :: r) = .ok () (tapOb { t with calls := i } :: r) := by rfl
theorem put_rest {t : Tap} {r : Sto} {i : Int} : gPut (.loc 0) (.str (Str.ofString "rest")) (.int i) (tapOb t :: r) = .ok () (tapOb { t with rest := i } :: r) := by rfl
theorem put_spot {t : Tap} {r : Sto} {i : Int} : gPut (.loc 0) (.str (Str.ofString "spot")) (.int i) (tapOb t :: r) = .ok () (tapOb { t with spot := i } :: r) := by rfl
theorem add_int {i j : Int} {s : Sto} : gAdd (.int i) (.int j) s = .ok (.int (i + j)) s := rfl
theorem sub_int {i j : Int} {s : Sto} : gSub (.int i) (.int j) s = .ok (.int (i - j)) s := rfl
theorem gt_int {i j : Int} {s : Sto} : gGt (.int i) (.int j) s = .ok (.bl (decide (j < i))) s := rfl
theorem ge_int {i j : Int} {s : Sto} : gGe (.int i) (.int j) s = .ok (.bl (decide (j ≤ i))) s := rfl
theorem lt_int {i j : Int} {s : Sto} : gLt (.int i) (.int j) s = .ok (.bl (decide (i < j))) s := rfl
theorem le_int {i j : Int} {s : Sto} : gLe (.int i) (.int j) s = .ok (.bl (decide (i ≤ j))) s := rfl
theorem eq_int {i j : Int} {s : Sto} : gEq (.int i) (.int j) s = .ok (.bl (i == j)) s := rfl
theorem ne_int {i j : Int} {s : Sto} : gNe (.int i) (.int j) s = .ok (.bl (!(i == j))) s := rfl
theorem ne_str {i j : Str} {s : Sto} : gNe (.str i) (.str j) s = .ok (.bl (!(i == j))) s := rfl
theorem mod_int {i j : Int} {s : Sto} : gMod (.int i) (.int j) s = Rs.iff (decide (0 < j)) (.ok (.int (i % j)) s) := rfl
theorem div_int {i j : Int} {s : Sto} : gDiv (.int i) (.int j) s = Rs.iff (decide (0 < j) && decide (j < 2 ^ 64)) (.ok (.int (i / j)) s) := rfl
theorem mul_int {i j : Int} {s : Sto} : gMul (.int i) (.int j) s = Rs.iff ((decide (-(2 ^ 64) < i) && decide (i < 2 ^ 64)) || (decide (-(2 ^ 64) < j) && decide (j < 2 ^ 64))) (.ok (.int (i * j)) s) := rfl
theorem pow_int {i j : Int} {s : Sto} : gPow (.int i) (.int j) s = Rs.iff (decide (0 ≤ j) && decide (j ≤ 1000000) && decide (-(2 ^ 64) < i) && decide (i < 2 ^ 64)) (.ok (.int (i ^ j.toNat)) s) := rfl
theorem mod_ok {i j : Int} {s : Sto} (h : 0 < j) : gMod (.int i) (.int j) s = .ok (.int (i % j)) s := by rw [mod_int, decide_eq_true h]; rfl
theorem div_ok {i j : Int} {s : Sto} (h : 0 < j) (h2 : j < 2 ^ 64) : gDiv (.int i) (.int j) s = .ok (.int (i / j)) s := by rw [div_int, decide_eq_true h, decide_eq_true h2]; rfl
theorem mul_ok {i j : Int} {s : Sto} (h : -(2 ^ 64) < i ∧ i < 2 ^ 64) : gMul (.int i) (.int j) s = .ok (.int (i * j)) s := by rw [mul_int, decide_eq_true h.1, decide_eq_true h.2]; rfl
theorem pow_ok {i j : Int} {s : Sto} (h : 0 ≤ j ∧ j ≤ 1000000) (h2 : -(2 ^ 64) < i ∧ i < 2 ^ 64) : gPow (.int i) (.int j) s = .ok (.int (i ^ j.toNat)) s := by rw [pow_int, decide_eq_true h.1, decide_eq_true h.2, decide_eq_true h2.1, decide_eq_true h2.2]; rfl
theorem len_ls {ds : List Dv} {s : Sto} : gLen [.ls ds] s = .ok (.int ds.length) s := rfl
theorem len_tup {ds : List Dv} {s : Sto} : gLen [.tup ds] s = .ok (.int ds.length) s := rfl
theorem atI_nat' {ds : List Dv} {j : Nat} {d : Dv} (h : ds[j]? = some d) : atI ds (j : Int) = some d := L2.atI_nat h
theorem ix_ls {ds : List Dv} {i : Int} {d : Dv} {s : Sto} (h0 : 0 ≤ i) (h : ds[i.toNat]? = some d) : gIx (.ls ds) (.int i) s = .ok d s := by
  have e : atI ds i = some d := by
    have := atI_nat' h
    rwa [Int.toNat_of_nonneg h0] at this
  show (match (some ds).bind (atI · i) with | some d => _ | none => _) = _
  rw [Option.bind_some, e]
theorem ix_tup {ds : List Dv} {i : Int} {d : Dv} {s : Sto} (h0 : 0 ≤ i) (h : ds[i.toNat]? = some d) : gIx (.tup ds) (.int i) s = .ok d s := by
  have e : atI ds i = some d := by
    have := atI_nat' h
    rwa [Int.toNat_of_nonneg h0] at this
  show (match (some ds).bind (atI · i) with | some d => _ | none => _) = _
  rw [Option.bind_some, e]
/-- the tap is sound -/
structure Tap.Wf (t : Tap) : Prop where
  c0 : 0 ≤ t.calls
  r0 : 0 ≤ t.rest
  s0 : 0 ≤ t.spot
def bTake : Fn Ct :=
  fSeq (fSet 2 (fBin gAdd (fBin gIx (fVar 0) (fC (.str (Str.ofString "calls")))) (fC (.int 1))))
  (fSeq (fPut (fVar 0) (fC (.str (Str.ofString "calls"))) (fVar 2))
  (fSeq (fIfS (fTest (fBin gGt (fBin gIx (fVar 0) (fC (.str (Str.ofString "rest")))) (fC (.int 0)))) (fSeq (fSet 3 (fBin gMod (fBin gIx (fVar 0) (fC (.str (Str.ofString "rest")))) (fVar 1)))
  (fSeq (fPut (fVar 0) (fC (.str (Str.ofString "rest"))) (fBin gDiv (fBin gIx (fVar 0) (fC (.str (Str.ofString "rest")))) (fVar 1)))
  (fRet (fVar 3)))) (fNop))
  (fSeq (fSet 4 (fBin gIx (fVar 0) (fC (.str (Str.ofString "spot")))))
  (fSeq (fPut (fVar 0) (fC (.str (Str.ofString "spot"))) (fBin gAdd (fVar 4) (fC (.int 1))))
  (fSeq (fSet 5 (fBin gIx (fVar 0) (fC (.str (Str.ofString "cells")))))
  (fSeq (fSet 6 (fIf (fTest (fBin gGt (fCall gLen (fCons (fVar 5) (fNil))) (fC (.int 0)))) (fBin gIx (fVar 5) (fBin gMod (fVar 4) (fCall gLen (fCons (fVar 5) (fNil))))) (fC (.int 5))))
  (fSeq (fIfS (fAndT (fTest (fBin gLt (fVar 4) (fCall gLen (fCons (fVar 5) (fNil))))) (fTest (fBin gGe (fVar 6) (fBin gPow (fC (.int 10)) (fC (.int 18)))))) (fSeq (fPut (fVar 0) (fC (.str (Str.ofString "rest"))) (fBin gDiv (fVar 6) (fVar 1)))
  (fRet (fBin gMod (fVar 6) (fVar 1)))) (fNop))
  (fSeq (fSet 7 (fBin gMod (fBin gPow (fBin gAdd (fBin gAdd (fBin gMod (fVar 6) (fC (.int 2147483629))) (fBin gMul (fC (.int 6007)) (fVar 2))) (fC (.int 11))) (fC (.int 5))) (fC (.int 2147483647))))
  (fRet (fBin gMod (fBin gDiv (fBin gMod (fBin gPow (fBin gAdd (fVar 7) (fBin gMul (fBin gMul (fC (.int 4099)) (fVar 2)) (fVar 2))) (fC (.int 5))) (fC (.int 2147483587))) (fC (.int 32))) (fVar 1)))))))))))
def TakeS (φ : Phi) : Prop := ∀ (t : Tap) (r : Sto) (m : Int), t.Wf → t.calls < 1000000 → 1 ≤ m → m < 2 ^ 64 → Fl r → OkE nX (φ [.loc 0, .int m] (tapOb t :: r)) fun d s' => ∃ (x : Int) (t' : Tap), d = .int x ∧ 0 ≤ x ∧ x < m ∧ s' = tapOb t' :: r ∧ t'.Wf ∧ t'.calls = t.calls + 1
theorem belows_ints (n : Nat) : ∀ zs : List Int, belows n (zs.map .int) = true
  | [] => rfl
  | z :: r => by
    show (below n (.int z) && belows n (r.map .int)) = true
    rw [belows_ints n r]; rfl
theorem Fl.tap {t : Tap} {r : Sto} (h : Fl r) : Fl (tapOb t :: r) := fun o ho => by
  rcases List.mem_cons.mp ho with z | z
  · subst z
    simp only [tapOb, belowO, List.all_cons, List.all_nil, below, belows_ints, Bool.and_true]
  · exact h o z
theorem take_spec : TakeS (fDef 2 8 bTake) := by
  intro t r m hw hc hm hm2 hf
  have fin : ∀ {t' : Tap} {x : Int} {T : Dv → Sto → Prop}, T (.int x) (tapOb t' :: r) → OkE nX (gcZ (r.length + 1) (.int x) (tapOb t' :: r)) T := fun h => ok_gc0 (b := _ :: r) rfl hf.tap rfl h
  rw [ok_def]
  refine ⟨rfl, ?_⟩
  unfold bTake
  have hmp : 0 < m := by omega
  have hw1 := hw.c0
  simp only [Y1,Qf,Qt,Qu,Qa,Qg,Qv,Qw,Qx,Qy,Qh,Qz,Jy,Qi,Qb,Qj,Qk,Q0,Jz,Q1,Q2,J0,Q3,Q4,J1,Ql,Qm,Qn,Q5,Qo,Q6,Qp,Q7,Q8,J2,Q9,Ja,J3,J4,J5,Jb,J6,J7,Jc,J8,J9,Jd,Je,Ya,Jf,Yb,Jg,Jh,Y8,Yc,Ji,Yd,Ye,Yf,Yg,Yh,Y2,Jj,Qq,Jk,Yi,Jl,Jm,Yj,Y3,Yk,Yl,Y4,Ym,Y5,Yn,Qc,Yo,Jn,Yp,Yq,Y6,Yr,Qd,Jo,Jp,Y7,Ys,Yt,Yu,Yv,Yw,Yx,Jq,Jr,Qr,Js,Yy,Qe,Qs,List.set_cons_zero,List.set_cons_succ,List.map_cons,List.map_nil,List.replicate,List.cons_append,List.nil_append,List.length_cons,List.length_nil,Bool.false_eq_true,eq_self,if_true,if_false,Nat.zero_add,Jt,Yz,Ju,Jv,Jw,Y0,Jx,true_and,tap_calls,add_int,put_calls,tap_rest,gt_int,tap_spot,put_spot,tap_cells,len_ls,decide_eq_true_eq]
  split
  · rename_i h1
    simp only [Y1,Qf,Qt,Qu,Qa,Qg,Qv,Qw,Qx,Qy,Qh,Qz,Jy,Qi,Qb,Qj,Qk,Q0,Jz,Q1,Q2,J0,Q3,Q4,J1,Ql,Qm,Qn,Q5,Qo,Q6,Qp,Q7,Q8,J2,Q9,Ja,J3,J4,J5,Jb,J6,J7,Jc,J8,J9,Jd,Je,Ya,Jf,Yb,Jg,Jh,Y8,Yc,Ji,Yd,Ye,Yf,Yg,Yh,Y2,Jj,Qq,Jk,Yi,Jl,Jm,Yj,Y3,Yk,Yl,Y4,Ym,Y5,Yn,Qc,Yo,Jn,Yp,Yq,Y6,Yr,Qd,Jo,Jp,Y7,Ys,Yt,Yu,Yv,Yw,Yx,Jq,Jr,Qr,Js,Yy,Qe,Qs,List.set_cons_zero,List.set_cons_succ,List.map_cons,List.map_nil,List.replicate,List.cons_append,List.nil_append,List.length_cons,List.length_nil,Bool.false_eq_true,eq_self,if_true,if_false,Nat.zero_add,Jt,Yz,Ju,Jv,Jw,Y0,Jx,true_and,mod_ok hmp,div_ok hmp hm2,tap_rest,put_rest]
    exact fin ⟨_, _, rfl, Int.emod_nonneg _ (by omega), Int.emod_lt_of_pos _ hmp, rfl, ⟨by show 0 ≤ t.calls + 1; omega, Int.ediv_nonneg hw.r0 (by omega), hw.s0⟩, rfl⟩
  · -- the rest of it, by any cell
    have tail : ∀ (x : Int) (sp : Int), 0 ≤ sp → OkE nX (fSeq (fSet 7 (fBin gMod (fBin gPow (fBin gAdd (fBin gAdd (fBin gMod (fVar 6) (fC (.int 2147483629))) (fBin gMul (fC (.int 6007)) (fVar 2))) (fC (.int 11))) (fC (.int 5))) (fC (.int 2147483647))))
        (fRet (fBin gMod (fBin gDiv (fBin gMod (fBin gPow (fBin gAdd (fVar 7) (fBin gMul (fBin gMul (fC (.int 4099)) (fVar 2)) (fVar 2))) (fC (.int 5))) (fC (.int 2147483587))) (fC (.int 32))) (fVar 1)))
        [some (Dv.loc 0), some (Dv.int m), some (Dv.int (t.calls + 1)), none, some (Dv.int t.spot), some (Dv.ls (t.cells.map Dv.int)), some (Dv.int x), none] (tapOb { cells := t.cells, spot := sp, rest := t.rest, calls := t.calls + 1 } :: r))
        (finK nX (r.length + 1) fun d s' => ∃ x t', d = Dv.int x ∧ 0 ≤ x ∧ x < m ∧ s' = tapOb t' :: r ∧ t'.Wf ∧ t'.calls = t.calls + 1) := by
      intro x sp hsp
      have g1 : 0 ≤ x % 2147483629 ∧ x % 2147483629 < 2147483629 := ⟨Int.emod_nonneg _ (by decide), Int.emod_lt_of_pos _ (by decide)⟩
      simp only [Y1,Qf,Qt,Qu,Qa,Qg,Qv,Qw,Qx,Qy,Qh,Qz,Jy,Qi,Qb,Qj,Qk,Q0,Jz,Q1,Q2,J0,Q3,Q4,J1,Ql,Qm,Qn,Q5,Qo,Q6,Qp,Q7,Q8,J2,Q9,Ja,J3,J4,J5,Jb,J6,J7,Jc,J8,J9,Jd,Je,Ya,Jf,Yb,Jg,Jh,Y8,Yc,Ji,Yd,Ye,Yf,Yg,Yh,Y2,Jj,Qq,Jk,Yi,Jl,Jm,Yj,Y3,Yk,Yl,Y4,Ym,Y5,Yn,Qc,Yo,Jn,Yp,Yq,Y6,Yr,Qd,Jo,Jp,Y7,Ys,Yt,Yu,Yv,Yw,Yx,Jq,Jr,Qr,Js,Yy,Qe,Qs,List.set_cons_zero,List.set_cons_succ,List.map_cons,List.map_nil,List.replicate,List.cons_append,List.nil_append,List.length_cons,List.length_nil,Bool.false_eq_true,eq_self,if_true,if_false,Nat.zero_add,Jt,Yz,Ju,Jv,Jw,Y0,Jx,true_and,mod_ok (show (0 : Int) < 2147483629 by decide),mul_ok (show -(2 ^ 64) < (6007 : Int) ∧ (6007 : Int) < 2 ^ 64 by decide),add_int]
      rw [pow_ok (by decide) (by constructor <;> omega)]
      simp only [Y1,Qf,Qt,Qu,Qa,Qg,Qv,Qw,Qx,Qy,Qh,Qz,Jy,Qi,Qb,Qj,Qk,Q0,Jz,Q1,Q2,J0,Q3,Q4,J1,Ql,Qm,Qn,Q5,Qo,Q6,Qp,Q7,Q8,J2,Q9,Ja,J3,J4,J5,Jb,J6,J7,Jc,J8,J9,Jd,Je,Ya,Jf,Yb,Jg,Jh,Y8,Yc,Ji,Yd,Ye,Yf,Yg,Yh,Y2,Jj,Qq,Jk,Yi,Jl,Jm,Yj,Y3,Yk,Yl,Y4,Ym,Y5,Yn,Qc,Yo,Jn,Yp,Yq,Y6,Yr,Qd,Jo,Jp,Y7,Ys,Yt,Yu,Yv,Yw,Yx,Jq,Jr,Qr,Js,Yy,Qe,Qs,List.set_cons_zero,List.set_cons_succ,List.map_cons,List.map_nil,List.replicate,List.cons_append,List.nil_append,List.length_cons,List.length_nil,Bool.false_eq_true,eq_self,if_true,if_false,Nat.zero_add,Jt,Yz,Ju,Jv,Jw,Y0,Jx,true_and,mod_ok (show (0 : Int) < 2147483647 by decide),mul_ok (show -(2 ^ 64) < (4099 : Int) ∧ (4099 : Int) < 2 ^ 64 by decide)]
      have g2 : 0 ≤ (x % 2147483629 + 6007 * (t.calls + 1) + 11) ^ (Int.toNat 5) % 2147483647 ∧ (x % 2147483629 + 6007 * (t.calls + 1) + 11) ^ (Int.toNat 5) % 2147483647 < 2147483647 := ⟨Int.emod_nonneg _ (by decide), Int.emod_lt_of_pos _ (by decide)⟩
      generalize (x % 2147483629 + 6007 * (t.calls + 1) + 11) ^ (Int.toNat 5) % 2147483647 = y at g2 ⊢
      rw [mul_ok (by constructor <;> omega)]
      simp only [Y1,Qf,Qt,Qu,Qa,Qg,Qv,Qw,Qx,Qy,Qh,Qz,Jy,Qi,Qb,Qj,Qk,Q0,Jz,Q1,Q2,J0,Q3,Q4,J1,Ql,Qm,Qn,Q5,Qo,Q6,Qp,Q7,Q8,J2,Q9,Ja,J3,J4,J5,Jb,J6,J7,Jc,J8,J9,Jd,Je,Ya,Jf,Yb,Jg,Jh,Y8,Yc,Ji,Yd,Ye,Yf,Yg,Yh,Y2,Jj,Qq,Jk,Yi,Jl,Jm,Yj,Y3,Yk,Yl,Y4,Ym,Y5,Yn,Qc,Yo,Jn,Yp,Yq,Y6,Yr,Qd,Jo,Jp,Y7,Ys,Yt,Yu,Yv,Yw,Yx,Jq,Jr,Qr,Js,Yy,Qe,Qs,List.set_cons_zero,List.set_cons_succ,List.map_cons,List.map_nil,List.replicate,List.cons_append,List.nil_append,List.length_cons,List.length_nil,Bool.false_eq_true,eq_self,if_true,if_false,Nat.zero_add,Jt,Yz,Ju,Jv,Jw,Y0,Jx,true_and,add_int]
      have g3 : 0 ≤ 4099 * (t.calls + 1) * (t.calls + 1) ∧ 4099 * (t.calls + 1) * (t.calls + 1) ≤ 4099 * 1000000 * 1000000 := by
        refine ⟨Int.mul_nonneg (by omega) (by omega), ?_⟩
        exact Int.mul_le_mul (by omega) (by omega) (by omega) (by decide)
      generalize 4099 * (t.calls + 1) * (t.calls + 1) = z at g3 ⊢
      rw [pow_ok (by decide) (by constructor <;> omega)]
      simp only [Y1,Qf,Qt,Qu,Qa,Qg,Qv,Qw,Qx,Qy,Qh,Qz,Jy,Qi,Qb,Qj,Qk,Q0,Jz,Q1,Q2,J0,Q3,Q4,J1,Ql,Qm,Qn,Q5,Qo,Q6,Qp,Q7,Q8,J2,Q9,Ja,J3,J4,J5,Jb,J6,J7,Jc,J8,J9,Jd,Je,Ya,Jf,Yb,Jg,Jh,Y8,Yc,Ji,Yd,Ye,Yf,Yg,Yh,Y2,Jj,Qq,Jk,Yi,Jl,Jm,Yj,Y3,Yk,Yl,Y4,Ym,Y5,Yn,Qc,Yo,Jn,Yp,Yq,Y6,Yr,Qd,Jo,Jp,Y7,Ys,Yt,Yu,Yv,Yw,Yx,Jq,Jr,Qr,Js,Yy,Qe,Qs,List.set_cons_zero,List.set_cons_succ,List.map_cons,List.map_nil,List.replicate,List.cons_append,List.nil_append,List.length_cons,List.length_nil,Bool.false_eq_true,eq_self,if_true,if_false,Nat.zero_add,Jt,Yz,Ju,Jv,Jw,Y0,Jx,true_and,mod_ok (show (0 : Int) < 2147483587 by decide),div_ok (show (0 : Int) < 32 by decide) (by decide),mod_ok hmp]
      exact fin ⟨_, _, rfl, Int.emod_nonneg _ (by omega), Int.emod_lt_of_pos _ hmp, rfl, ⟨by show 0 ≤ t.calls + 1; omega, hw.r0, hsp⟩, rfl⟩
    have mid : ∀ (x : Int), OkE nX (fSeq (fIfS (fAndT (fTest (fBin gLt (fVar 4) (fCall gLen (fCons (fVar 5) (fNil))))) (fTest (fBin gGe (fVar 6) (fBin gPow (fC (.int 10)) (fC (.int 18)))))) (fSeq (fPut (fVar 0) (fC (.str (Str.ofString "rest"))) (fBin gDiv (fVar 6) (fVar 1)))
  (fRet (fBin gMod (fVar 6) (fVar 1)))) (fNop)) (fSeq (fSet 7 (fBin gMod (fBin gPow (fBin gAdd (fBin gAdd (fBin gMod (fVar 6) (fC (.int 2147483629))) (fBin gMul (fC (.int 6007)) (fVar 2))) (fC (.int 11))) (fC (.int 5))) (fC (.int 2147483647))))
        (fRet (fBin gMod (fBin gDiv (fBin gMod (fBin gPow (fBin gAdd (fVar 7) (fBin gMul (fBin gMul (fC (.int 4099)) (fVar 2)) (fVar 2))) (fC (.int 5))) (fC (.int 2147483587))) (fC (.int 32))) (fVar 1))))
        [some (Dv.loc 0), some (Dv.int m), some (Dv.int (t.calls + 1)), none, some (Dv.int t.spot), some (Dv.ls (t.cells.map Dv.int)), some (Dv.int x), none] (tapOb { cells := t.cells, spot := t.spot + 1, rest := t.rest, calls := t.calls + 1 } :: r))
        (finK nX (r.length + 1) fun d s' => ∃ x t', d = Dv.int x ∧ 0 ≤ x ∧ x < m ∧ s' = tapOb t' :: r ∧ t'.Wf ∧ t'.calls = t.calls + 1) := by
      intro x
      have tl := tail x (t.spot + 1) (by have := hw.s0; omega)
      rw [J5]
      simp only [Y1,Qf,Qt,Qu,Qa,Qg,Qv,Qw,Qx,Qy,Qh,Qz,Jy,Qi,Qb,Qj,Qk,Q0,Jz,Q1,Q2,J0,Q3,Q4,J1,Ql,Qm,Qn,Q5,Qo,Q6,Qp,Q7,Q8,J2,Q9,Ja,J3,J4,J5,Jb,J6,J7,Jc,J8,J9,Jd,Je,Ya,Jf,Yb,Jg,Jh,Y8,Yc,Ji,Yd,Ye,Yf,Yg,Yh,Y2,Jj,Qq,Jk,Yi,Jl,Jm,Yj,Y3,Yk,Yl,Y4,Ym,Y5,Yn,Qc,Yo,Jn,Yp,Yq,Y6,Yr,Qd,Jo,Jp,Y7,Ys,Yt,Yu,Yv,Yw,Yx,Jq,Jr,Qr,Js,Yy,Qe,Qs,List.set_cons_zero,List.set_cons_succ,List.map_cons,List.map_nil,List.replicate,List.cons_append,List.nil_append,List.length_cons,List.length_nil,Bool.false_eq_true,eq_self,if_true,if_false,Nat.zero_add,Jt,Yz,Ju,Jv,Jw,Y0,Jx,true_and,len_ls,lt_int,pow_ok (show (0 : Int) ≤ 18 ∧ (18 : Int) ≤ 1000000 by decide) (show -(2 ^ 64) < (10 : Int) ∧ (10 : Int) < 2 ^ 64 by decide),ge_int,decide_eq_true_eq]
      split
      · split
        · rename_i h2
          simp only [Y1,Qf,Qt,Qu,Qa,Qg,Qv,Qw,Qx,Qy,Qh,Qz,Jy,Qi,Qb,Qj,Qk,Q0,Jz,Q1,Q2,J0,Q3,Q4,J1,Ql,Qm,Qn,Q5,Qo,Q6,Qp,Q7,Q8,J2,Q9,Ja,J3,J4,J5,Jb,J6,J7,Jc,J8,J9,Jd,Je,Ya,Jf,Yb,Jg,Jh,Y8,Yc,Ji,Yd,Ye,Yf,Yg,Yh,Y2,Jj,Qq,Jk,Yi,Jl,Jm,Yj,Y3,Yk,Yl,Y4,Ym,Y5,Yn,Qc,Yo,Jn,Yp,Yq,Y6,Yr,Qd,Jo,Jp,Y7,Ys,Yt,Yu,Yv,Yw,Yx,Jq,Jr,Qr,Js,Yy,Qe,Qs,List.set_cons_zero,List.set_cons_succ,List.map_cons,List.map_nil,List.replicate,List.cons_append,List.nil_append,List.length_cons,List.length_nil,Bool.false_eq_true,eq_self,if_true,if_false,Nat.zero_add,Jt,Yz,Ju,Jv,Jw,Y0,Jx,true_and,div_ok hmp hm2,put_rest,mod_ok hmp]
          refine fin ⟨_, _, rfl, Int.emod_nonneg _ (by omega), Int.emod_lt_of_pos _ hmp, rfl, ⟨by show 0 ≤ t.calls + 1; omega, Int.ediv_nonneg ?_ (by omega), by show 0 ≤ t.spot + 1; have := hw.s0; omega⟩, rfl⟩
          have : (10 : Int) ^ (Int.toNat 18) = 1000000000000000000 := by decide
          omega
        · simp only [Y1,Qf,Qt,Qu,Qa,Qg,Qv,Qw,Qx,Qy,Qh,Qz,Jy,Qi,Qb,Qj,Qk,Q0,Jz,Q1,Q2,J0,Q3,Q4,J1,Ql,Qm,Qn,Q5,Qo,Q6,Qp,Q7,Q8,J2,Q9,Ja,J3,J4,J5,Jb,J6,J7,Jc,J8,J9,Jd,Je,Ya,Jf,Yb,Jg,Jh,Y8,Yc,Ji,Yd,Ye,Yf,Yg,Yh,Y2,Jj,Qq,Jk,Yi,Jl,Jm,Yj,Y3,Yk,Yl,Y4,Ym,Y5,Yn,Qc,Yo,Jn,Yp,Yq,Y6,Yr,Qd,Jo,Jp,Y7,Ys,Yt,Yu,Yv,Yw,Yx,Jq,Jr,Qr,Js,Yy,Qe,Qs,List.set_cons_zero,List.set_cons_succ,List.map_cons,List.map_nil,List.replicate,List.cons_append,List.nil_append,List.length_cons,List.length_nil,Bool.false_eq_true,eq_self,if_true,if_false,Nat.zero_add,Jt,Yz,Ju,Jv,Jw,Y0,Jx,true_and] at tl; exact tl
      · simp only [Y1,Qf,Qt,Qu,Qa,Qg,Qv,Qw,Qx,Qy,Qh,Qz,Jy,Qi,Qb,Qj,Qk,Q0,Jz,Q1,Q2,J0,Q3,Q4,J1,Ql,Qm,Qn,Q5,Qo,Q6,Qp,Q7,Q8,J2,Q9,Ja,J3,J4,J5,Jb,J6,J7,Jc,J8,J9,Jd,Je,Ya,Jf,Yb,Jg,Jh,Y8,Yc,Ji,Yd,Ye,Yf,Yg,Yh,Y2,Jj,Qq,Jk,Yi,Jl,Jm,Yj,Y3,Yk,Yl,Y4,Ym,Y5,Yn,Qc,Yo,Jn,Yp,Yq,Y6,Yr,Qd,Jo,Jp,Y7,Ys,Yt,Yu,Yv,Yw,Yx,Jq,Jr,Qr,Js,Yy,Qe,Qs,List.set_cons_zero,List.set_cons_succ,List.map_cons,List.map_nil,List.replicate,List.cons_append,List.nil_append,List.length_cons,List.length_nil,Bool.false_eq_true,eq_self,if_true,if_false,Nat.zero_add,Jt,Yz,Ju,Jv,Jw,Y0,Jx,true_and] at tl; exact tl
    split
    · rename_i h1 h2
      have hl : 0 < (t.cells.length : Int) := by simpa using h2
      simp only [Y1,Qf,Qt,Qu,Qa,Qg,Qv,Qw,Qx,Qy,Qh,Qz,Jy,Qi,Qb,Qj,Qk,Q0,Jz,Q1,Q2,J0,Q3,Q4,J1,Ql,Qm,Qn,Q5,Qo,Q6,Qp,Q7,Q8,J2,Q9,Ja,J3,J4,J5,Jb,J6,J7,Jc,J8,J9,Jd,Je,Ya,Jf,Yb,Jg,Jh,Y8,Yc,Ji,Yd,Ye,Yf,Yg,Yh,Y2,Jj,Qq,Jk,Yi,Jl,Jm,Yj,Y3,Yk,Yl,Y4,Ym,Y5,Yn,Qc,Yo,Jn,Yp,Yq,Y6,Yr,Qd,Jo,Jp,Y7,Ys,Yt,Yu,Yv,Yw,Yx,Jq,Jr,Qr,Js,Yy,Qe,Qs,List.set_cons_zero,List.set_cons_succ,List.map_cons,List.map_nil,List.replicate,List.cons_append,List.nil_append,List.length_cons,List.length_nil,Bool.false_eq_true,eq_self,if_true,if_false,Nat.zero_add,Jt,Yz,Ju,Jv,Jw,Y0,Jx,true_and,mod_ok h2]
      have e1 : 0 ≤ t.spot % ((t.cells.map Dv.int).length : Int) := Int.emod_nonneg _ (by omega)
      have e2 : t.spot % ((t.cells.map Dv.int).length : Int) < (t.cells.map Dv.int).length := Int.emod_lt_of_pos _ (by omega)
      have e3 : (t.spot % ((t.cells.map Dv.int).length : Int)).toNat < t.cells.length := by rw [List.length_map] at *; omega
      rw [ix_ls (d := .int t.cells[(t.spot % ((t.cells.map Dv.int).length : Int)).toNat]) e1 (by rw [List.getElem?_map, List.getElem?_eq_getElem e3]; rfl)]
      exact mid _
    · have tl := mid 5
      simp only [Y1,Qf,Qt,Qu,Qa,Qg,Qv,Qw,Qx,Qy,Qh,Qz,Jy,Qi,Qb,Qj,Qk,Q0,Jz,Q1,Q2,J0,Q3,Q4,J1,Ql,Qm,Qn,Q5,Qo,Q6,Qp,Q7,Q8,J2,Q9,Ja,J3,J4,J5,Jb,J6,J7,Jc,J8,J9,Jd,Je,Ya,Jf,Yb,Jg,Jh,Y8,Yc,Ji,Yd,Ye,Yf,Yg,Yh,Y2,Jj,Qq,Jk,Yi,Jl,Jm,Yj,Y3,Yk,Yl,Y4,Ym,Y5,Yn,Qc,Yo,Jn,Yp,Yq,Y6,Yr,Qd,Jo,Jp,Y7,Ys,Yt,Yu,Yv,Yw,Yx,Jq,Jr,Qr,Js,Yy,Qe,Qs,List.set_cons_zero,List.set_cons_succ,List.map_cons,List.map_nil,List.replicate,List.cons_append,List.nil_append,List.length_cons,List.length_nil,Bool.false_eq_true,eq_self,if_true,if_false,Nat.zero_add,Jt,Yz,Ju,Jv,Jw,Y0,Jx,true_and,len_ls] at tl
      exact tl
end Z

namespace Z
open PySem PySem.Spec PyProof.Rows L2

/-! ### places of the store behind a base -/
theorem st_get {t : Ob} {r l : Sto} {k : Nat} : (t :: (r ++ l))[r.length + (k + 1)]? = l[k]? := by
  rw [show r.length + (k + 1) = (r.length + k) + 1 by omega, List.getElem?_cons_succ, List.getElem?_append_right (by omega), Nat.add_sub_cancel_left]
theorem st_set {t o : Ob} {r l : Sto} {k : Nat} : (t :: (r ++ l)).set (r.length + (k + 1)) o = t :: (r ++ l.set k o) := by
  rw [show r.length + (k + 1) = (r.length + k) + 1 by omega, List.set_cons_succ, List.set_append_right _ _ (by omega), Nat.add_sub_cancel_left]
theorem st_get1 {t o : Ob} {r l : Sto} : (t :: (r ++ o :: l))[r.length + 1]? = some o := st_get (k := 0)
theorem st_set1 {t o o' : Ob} {r l : Sto} : (t :: (r ++ o :: l)).set (r.length + 1) o' = t :: (r ++ o' :: l) := st_set (k := 0)
theorem st_get2 {t o o2 : Ob} {r l : Sto} : (t :: (r ++ o :: o2 :: l))[r.length + 2]? = some o2 := st_get (k := 1)
theorem st_set2 {t o o2 o' : Ob} {r l : Sto} : (t :: (r ++ o :: o2 :: l)).set (r.length + 2) o' = t :: (r ++ o :: o' :: l) := st_set (k := 1)
theorem isL_loc {n : Nat} {ds : List Dv} {s : Sto} (h : s[n]? = some (.lst ds)) : isL (.loc n) s = true := by
  show (match s[n]? with | some (.lst _) => true | _ => false) = true
  rw [h]
theorem append_loc {n : Nat} {ds : List Dv} {d : Dv} {s : Sto} (h : s[n]? = some (.lst ds)) (hl : ds.length < 16777216) : gAppend (.loc n) [d] s = .ok .non (s.set n (.lst (ds ++ [d]))) := by
  show (match s[n]? with | some (.lst ds) => _ | _ => _) = _
  rw [h]
  show Rs.iff (decide (ds.length < 16777216)) _ = _
  rw [decide_eq_true hl]; rfl
theorem ixN_nat {n : Nat} {i : Int} (h0 : 0 ≤ i) (h : i < n) : ixN n i = some i.toNat := by
  unfold ixN; rw [if_pos h0, if_pos h]
theorem popAt_loc {n : Nat} {ds : List Dv} {i : Int} {d : Dv} {s : Sto} (h : s[n]? = some (.lst ds)) (h0 : 0 ≤ i) (h1 : i < 1000000) (hd : ds[i.toNat]? = some d) : gPopAt (.loc n) [.int i] s = .ok d (s.set n (.lst (ds.eraseIdx i.toNat))) := by
  show (match s[n]? with | some (.lst ds) => (match ixN ds.length i with | some j => (match ds[j]? with | some d => Rs.iff (inRng i) (.ok d (s.set n (.lst (ds.eraseIdx j)))) | none => .bad) | none => .bad) | _ => .bad) = _
  rw [h]
  have hl := (List.getElem?_eq_some_iff.mp hd).1
  show (match ixN ds.length i with | some j => (match ds[j]? with | some d => Rs.iff (inRng i) (Rs.ok d (s.set n (.lst (ds.eraseIdx j)))) | none => .bad) | none => .bad) = _
  rw [ixN_nat h0 (by omega)]
  show (match ds[i.toNat]? with | some d => Rs.iff (inRng i) (Rs.ok d (s.set n (.lst (ds.eraseIdx i.toNat)))) | none => .bad) = _
  rw [hd]
  show Rs.iff (inRng i) _ = _
  have : inRng i = true := by
    unfold inRng
    rw [Bool.and_eq_true, decide_eq_true_eq, decide_eq_true_eq]
    constructor <;> omega
  rw [this]; rfl
theorem len_loc {n : Nat} {ds : List Dv} {s : Sto} (h : s[n]? = some (.lst ds)) : gLen [.loc n] s = .ok (.int ds.length) s := by
  show (match (match s[n]? with | some (.lst ds) => some ds | _ => none) with | some ds => Rs.ok (Dv.int ds.length) s | none => .bad) = _
  rw [h]
theorem tuple_ls {ds : List Dv} {s : Sto} : gTuple [.ls ds] s = .ok (.tup ds) s := rfl
theorem tuple_loc {n : Nat} {ds : List Dv} {s : Sto} (h : s[n]? = some (.lst ds)) : gTuple [.loc n] s = .ok (.tup ds) s := by
  show (match (match s[n]? with | some (.lst ds) => some ds | _ => none) with | some ds => Rs.ok (Dv.tup ds) s | none => .bad) = _
  rw [h]
theorem belows_strs (n : Nat) : ∀ zs : List Str, belows n (zs.map .str) = true
  | [] => rfl
  | z :: r => by
    show (below n (.str z) && belows n (r.map .str)) = true
    rw [belows_strs n r]; rfl
theorem below_tup {n : Nat} {ds : List Dv} (h : belows n ds = true) : below n (.tup ds) = true := by simpa [below] using h
theorem below_ls {n : Nat} {ds : List Dv} (h : belows n ds = true) : below n (.ls ds) = true := by simpa [below] using h
theorem belows_cons {n : Nat} {d : Dv} {ds : List Dv} (h : below n d = true) (h2 : belows n ds = true) : belows n (d :: ds) = true := by simp [belows, h, h2]
theorem belows_all {n : Nat} : ∀ {ds : List Dv}, (∀ d ∈ ds, below n d = true) → belows n ds = true
  | [], _ => rfl
  | d :: ds, h => belows_cons (h d List.mem_cons_self) (belows_all fun x hx => h x (List.mem_cons_of_mem _ hx))
theorem Fl.app {r l : Sto} (h : Fl r) (h2 : Fl l) : Fl (r ++ l) := fun o ho => (List.mem_append.mp ho).elim (h o) (h2 o)
theorem Fl.one {ds : List Dv} (h : belows 0 ds = true) : Fl [.lst ds] := fun o ho => by rw [List.mem_singleton.mp ho]; exact h
theorem Fl.nil : Fl [] := fun o ho => by cases ho
theorem Fl.two {ds es : List Dv} (h : belows 0 ds = true) (h2 : belows 0 es = true) : Fl [.lst ds, .lst es] := fun o ho => by
  rcases List.mem_cons.mp ho with z | z
  · rw [z]; exact h
  · rw [List.mem_singleton.mp z]; exact h2
theorem inRng_small {i : Int} (h0 : -1000000000 ≤ i) (h1 : i < 1000000000) : inRng i = true := by
  unfold inRng
  rw [Bool.and_eq_true, decide_eq_true_eq, decide_eq_true_eq]
  constructor <;> omega
theorem str_get {xs : List Str} {j : Nat} (h : j < xs.length) : (xs.map Dv.str)[j]? = some (.str xs[j]) := by rw [List.getElem?_map, List.getElem?_eq_getElem h]; rfl
/-- the end of a def whose locals are let go -/
theorem fin_tap {t : Tap} {r l : Sto} {d : Dv} {T : Dv → Sto → Prop} (hf : Fl r) (hd : below 0 d = true) (h : T d (tapOb t :: r)) : OkE nX (gcZ (r.length + 1) d (tapOb t :: (r ++ l))) T :=
  ok_gc (b := tapOb t :: r) rfl hf.tap (below_mono (Nat.zero_le _) hd) h
theorem fin_tap0 {t : Tap} {r : Sto} {d : Dv} {T : Dv → Sto → Prop} (hf : Fl r) (hd : below 0 d = true) (h : T d (tapOb t :: r)) : OkE nX (gcZ (r.length + 1) d (tapOb t :: r)) T :=
  ok_gc0 (b := tapOb t :: r) rfl hf.tap (below_mono (Nat.zero_le _) hd) h

theorem map_erase {α β : Type} (f : α → β) : ∀ (l : List α) (i : Nat), (l.map f).eraseIdx i = (l.eraseIdx i).map f
  | [], _ => rfl
  | _ :: _, 0 => rfl
  | x :: l, i + 1 => by
    show f x :: (l.map f).eraseIdx i = f x :: (l.eraseIdx i).map f
    rw [map_erase f l i]
theorem erase_perm {α : Type} : ∀ (l : List α) (i : Nat) (h : i < l.length), (l[i] :: l.eraseIdx i).Perm l
  | x :: l, 0, _ => List.Perm.refl _
  | x :: l, i + 1, h => by
    show (l[i]'(by simpa using h) :: x :: l.eraseIdx i).Perm (x :: l)
    exact (List.Perm.swap x _ _).trans ((erase_perm l i (by simpa using h)).cons x)

/-! ### some names -/
def pool10 : List Str := [Str.ofString "a", Str.ofString "ab", Str.ofString "abc", Str.ofString "b", Str.ofString "bell", Str.ofString "told", Str.ofString "x", Str.ofString "zz", Str.ofString "zzzzzzzz", Str.ofString "as"]
theorem pool10_nd : pool10.Nodup := by decide +kernel
def bLots (φt : Phi) : Fn Ct :=
  fSeq (fSet 2 (fNew (fLst (fCons (fC (.str (Str.ofString "a"))) (fCons (fC (.str (Str.ofString "ab"))) (fCons (fC (.str (Str.ofString "abc"))) (fCons (fC (.str (Str.ofString "b"))) (fCons (fC (.str (Str.ofString "bell"))) (fCons (fC (.str (Str.ofString "told"))) (fCons (fC (.str (Str.ofString "x"))) (fCons (fC (.str (Str.ofString "zz"))) (fCons (fC (.str (Str.ofString "zzzzzzzz"))) (fCons (fC (.str (Str.ofString "as"))) (fNil))))))))))))))
  (fRet (fCall gTuple (fCons (fVal (fLc (fRng1 (fCons (fVar 1) (fNil))) [3] (gNm 3) (fYes) (fMt isL gPopAt (fVar 2) (fCons (fCall φt (fCons (fVar 0) (fCons (fCall gLen (fCons (fVar 2) (fNil))) (fNil)))) (fNil))))) (fNil))))
def LotsS (φ : Phi) : Prop := ∀ (t : Tap) (r : Sto) (m : Int), t.Wf → t.calls + m ≤ 1000000 → 0 ≤ m → m ≤ 10 → Fl r → OkE nX (φ [.loc 0, .int m] (tapOb t :: r)) fun d s' => ∃ (xs : List Str) (t' : Tap), d = .tup (xs.map .str) ∧ (xs.length : Int) = m ∧ xs.Nodup ∧ (∀ x ∈ xs, x ∈ pool10) ∧
  s' = tapOb t' :: r ∧ t'.Wf ∧ t.calls ≤ t'.calls ∧ t'.calls ≤ t.calls + m
theorem lots_spec {φt : Phi} (ht : TakeS φt) : LotsS (fDef 2 4 (bLots φt)) := by
  intro t r m hw hc hm0 hm hf
  rw [ok_def]
  refine ⟨rfl, ?_⟩
  unfold bLots
  simp only [Y1,Qf,Qt,Qu,Qa,Qg,Qv,Qw,Qx,Qy,Qh,Qz,Jy,Qi,Qb,Qj,Qk,Q0,Jz,Q1,Q2,J0,Q3,Q4,J1,Ql,Qm,Qn,Q5,Qo,Q6,Qp,Q7,Q8,J2,Q9,Ja,J3,J4,J5,Jb,J6,J7,Jc,J8,J9,Jd,Je,Ya,Jf,Yb,Jg,Jh,Y8,Yc,Ji,Yd,Ye,Yf,Yg,Yh,Y2,Jj,Qq,Jk,Yi,Jl,Jm,Yj,Y3,Yk,Yl,Y4,Ym,Y5,Yn,Qc,Yo,Jn,Yp,Yq,Y6,Yr,Qd,Jo,Jp,Y7,Ys,Yt,Yu,Yv,Yw,Yx,Jq,Jr,Qr,Js,Yy,Qe,Qs,List.set_cons_zero,List.set_cons_succ,List.map_cons,List.map_nil,List.replicate,List.cons_append,List.nil_append,List.length_cons,List.length_nil,Bool.false_eq_true,eq_self,if_true,if_false,Nat.zero_add,Jt,Yz,Ju,Jv,Jw,Y0,Jx,true_and]
  refine ⟨by decide, ?_⟩
  refine ⟨inRng_small (by omega) (by omega), ?_⟩
  simp only [Y1,Qf,Qt,Qu,Qa,Qg,Qv,Qw,Qx,Qy,Qh,Qz,Jy,Qi,Qb,Qj,Qk,Q0,Jz,Q1,Q2,J0,Q3,Q4,J1,Ql,Qm,Qn,Q5,Qo,Q6,Qp,Q7,Q8,J2,Q9,Ja,J3,J4,J5,Jb,J6,J7,Jc,J8,J9,Jd,Je,Ya,Jf,Yb,Jg,Jh,Y8,Yc,Ji,Yd,Ye,Yf,Yg,Yh,Y2,Jj,Qq,Jk,Yi,Jl,Jm,Yj,Y3,Yk,Yl,Y4,Ym,Y5,Yn,Qc,Yo,Jn,Yp,Yq,Y6,Yr,Qd,Jo,Jp,Y7,Ys,Yt,Yu,Yv,Yw,Yx,Jq,Jr,Qr,Js,Yy,Qe,Qs,List.set_cons_zero,List.set_cons_succ,List.map_cons,List.map_nil,List.replicate,List.cons_append,List.nil_append,List.length_cons,List.length_nil,Bool.false_eq_true,eq_self,if_true,if_false,Nat.zero_add,Jt,Yz,Ju,Jv,Jw,Y0,Jx,true_and,rngD_len]
  refine ⟨decide_eq_true (by omega), ?_⟩
  refine ok_lcI (fun i acc s => ∃ (t' : Tap) (xs pool : List Str), acc = xs.map .str ∧ s = tapOb t' :: (r ++ [.lst (pool.map .str)]) ∧ xs.length = i ∧ (xs ++ pool).Perm pool10 ∧ t'.Wf ∧ t'.calls = t.calls + i)
    (fun _ _ _ _ => rfl) (fun i d acc s hd h => ?_) (fun acc s h => ?_) ⟨t, [], pool10, rfl, rfl, rfl, List.Perm.refl _, hw, by simp⟩
  · obtain ⟨t', xs, pool, rfl, rfl, rfl, hp, hw', hc'⟩ := h
    obtain ⟨hi, rfl⟩ := rngD_get hd
    have hpl : xs.length + pool.length = 10 := by rw [← List.length_append, hp.length_eq]; rfl
    have hl : (tapOb t' :: (r ++ [Ob.lst (pool.map .str)]))[r.length + 1]? = some (.lst (pool.map .str)) := st_get1
    simp only [Y1,Qf,Qt,Qu,Qa,Qg,Qv,Qw,Qx,Qy,Qh,Qz,Jy,Qi,Qb,Qj,Qk,Q0,Jz,Q1,Q2,J0,Q3,Q4,J1,Ql,Qm,Qn,Q5,Qo,Q6,Qp,Q7,Q8,J2,Q9,Ja,J3,J4,J5,Jb,J6,J7,Jc,J8,J9,Jd,Je,Ya,Jf,Yb,Jg,Jh,Y8,Yc,Ji,Yd,Ye,Yf,Yg,Yh,Y2,Jj,Qq,Jk,Yi,Jl,Jm,Yj,Y3,Yk,Yl,Y4,Ym,Y5,Yn,Qc,Yo,Jn,Yp,Yq,Y6,Yr,Qd,Jo,Jp,Y7,Ys,Yt,Yu,Yv,Yw,Yx,Jq,Jr,Qr,Js,Yy,Qe,Qs,List.set_cons_zero,List.set_cons_succ,List.map_cons,List.map_nil,List.replicate,List.cons_append,List.nil_append,List.length_cons,List.length_nil,Bool.false_eq_true,eq_self,if_true,if_false,Nat.zero_add,Jt,Yz,Ju,Jv,Jw,Y0,Jx,true_and,wipeZ]
    refine ⟨isL_loc hl, ?_⟩
    simp only [Y1,Qf,Qt,Qu,Qa,Qg,Qv,Qw,Qx,Qy,Qh,Qz,Jy,Qi,Qb,Qj,Qk,Q0,Jz,Q1,Q2,J0,Q3,Q4,J1,Ql,Qm,Qn,Q5,Qo,Q6,Qp,Q7,Q8,J2,Q9,Ja,J3,J4,J5,Jb,J6,J7,Jc,J8,J9,Jd,Je,Ya,Jf,Yb,Jg,Jh,Y8,Yc,Ji,Yd,Ye,Yf,Yg,Yh,Y2,Jj,Qq,Jk,Yi,Jl,Jm,Yj,Y3,Yk,Yl,Y4,Ym,Y5,Yn,Qc,Yo,Jn,Yp,Yq,Y6,Yr,Qd,Jo,Jp,Y7,Ys,Yt,Yu,Yv,Yw,Yx,Jq,Jr,Qr,Js,Yy,Qe,Qs,List.set_cons_zero,List.set_cons_succ,List.map_cons,List.map_nil,List.replicate,List.cons_append,List.nil_append,List.length_cons,List.length_nil,Bool.false_eq_true,eq_self,if_true,if_false,Nat.zero_add,Jt,Yz,Ju,Jv,Jw,Y0,Jx,true_and,len_loc hl]
    refine (ht t' (r ++ [.lst (pool.map .str)]) ((pool.map Dv.str).length : Int) hw' (by omega) (by rw [List.length_map]; omega) (by rw [List.length_map]; omega) (hf.app (.one (belows_strs _ _)))).mono ?_
    rintro d s ⟨x, t2, rfl, hx0, hx1, rfl, hw2, hc2⟩
    rw [List.length_map] at hx1
    have hxn : x.toNat < pool.length := by omega
    simp only [Y1,Qf,Qt,Qu,Qa,Qg,Qv,Qw,Qx,Qy,Qh,Qz,Jy,Qi,Qb,Qj,Qk,Q0,Jz,Q1,Q2,J0,Q3,Q4,J1,Ql,Qm,Qn,Q5,Qo,Q6,Qp,Q7,Q8,J2,Q9,Ja,J3,J4,J5,Jb,J6,J7,Jc,J8,J9,Jd,Je,Ya,Jf,Yb,Jg,Jh,Y8,Yc,Ji,Yd,Ye,Yf,Yg,Yh,Y2,Jj,Qq,Jk,Yi,Jl,Jm,Yj,Y3,Yk,Yl,Y4,Ym,Y5,Yn,Qc,Yo,Jn,Yp,Yq,Y6,Yr,Qd,Jo,Jp,Y7,Ys,Yt,Yu,Yv,Yw,Yx,Jq,Jr,Qr,Js,Yy,Qe,Qs,List.set_cons_zero,List.set_cons_succ,List.map_cons,List.map_nil,List.replicate,List.cons_append,List.nil_append,List.length_cons,List.length_nil,Bool.false_eq_true,eq_self,if_true,if_false,Nat.zero_add,Jt,Yz,Ju,Jv,Jw,Y0,Jx,true_and]
    rw [popAt_loc (d := .str pool[x.toNat]) (ds := pool.map .str) st_get1 hx0 (by omega) (str_get hxn), Y1, st_set1]
    refine ⟨t2, xs ++ [pool[x.toNat]], pool.eraseIdx x.toNat, by simp, by rw [map_erase], by simp, ?_, hw2, by rw [hc2, hc']; push_cast; omega⟩
    rw [List.append_assoc]
    refine List.Perm.trans (List.Perm.append_left _ ?_) hp
    show (pool[x.toNat] :: pool.eraseIdx x.toNat).Perm pool
    exact erase_perm pool x.toNat hxn
  · obtain ⟨t', xs, pool, rfl, rfl, hxl, hp, hw', hc'⟩ := h
    rw [rngD_len] at hxl hc'
    have hnd : (xs ++ pool).Nodup := hp.nodup_iff.mpr pool10_nd
    simp only [Y1,Qf,Qt,Qu,Qa,Qg,Qv,Qw,Qx,Qy,Qh,Qz,Jy,Qi,Qb,Qj,Qk,Q0,Jz,Q1,Q2,J0,Q3,Q4,J1,Ql,Qm,Qn,Q5,Qo,Q6,Qp,Q7,Q8,J2,Q9,Ja,J3,J4,J5,Jb,J6,J7,Jc,J8,J9,Jd,Je,Ya,Jf,Yb,Jg,Jh,Y8,Yc,Ji,Yd,Ye,Yf,Yg,Yh,Y2,Jj,Qq,Jk,Yi,Jl,Jm,Yj,Y3,Yk,Yl,Y4,Ym,Y5,Yn,Qc,Yo,Jn,Yp,Yq,Y6,Yr,Qd,Jo,Jp,Y7,Ys,Yt,Yu,Yv,Yw,Yx,Jq,Jr,Qr,Js,Yy,Qe,Qs,List.set_cons_zero,List.set_cons_succ,List.map_cons,List.map_nil,List.replicate,List.cons_append,List.nil_append,List.length_cons,List.length_nil,Bool.false_eq_true,eq_self,if_true,if_false,Nat.zero_add,Jt,Yz,Ju,Jv,Jw,Y0,Jx,true_and,tuple_ls]
    refine fin_tap hf (below_tup (belows_strs _ _)) ⟨xs, t', rfl, by omega, (List.nodup_append.mp hnd).1, fun x hx => hp.mem_iff.mp (List.mem_append.mpr (.inl hx)), rfl, hw', by omega, by omega⟩
end Z

namespace Z
open PySem PySem.Spec PyProof.Rows L2

/-! ### sorted texts -/
def srtS (xs : List Str) : List Str := xs.mergeSort (PySem.W.dataLe false fun x => .str x)
theorem srtS_perm (xs : List Str) : (srtS xs).Perm xs := List.mergeSort_perm _ _
theorem sortD_map {α : Type} (f : α → Dv) (g : α → PyData) (xs : List α) : sortD (xs.map f) (xs.map g) = (xs.mergeSort (PySem.W.dataLe false g)).map f := by
  unfold sortD
  rw [show (xs.map f).zip (xs.map g) = xs.map fun x => (f x, g x) by induction xs with | nil => rfl | cons x l ih => simp [ih]]
  rw [← List.map_mergeSort (r := PySem.W.dataLe false g) (f := fun x => (f x, g x)) (fun _ _ _ _ => rfl), List.map_map]
  rfl
theorem mapM_map {α β γ : Type} {f : α → β} {g : β → Option γ} {h : α → γ} : ∀ {xs : List α}, (∀ x ∈ xs, g (f x) = some (h x)) → (xs.map f).mapM g = some (xs.map h)
  | [], _ => rfl
  | x :: l, hh => by
    rw [List.map_cons, List.mapM_cons, hh x List.mem_cons_self, mapM_map (xs := l) fun y hy => hh y (List.mem_cons_of_mem _ hy)]
    rfl
theorem sorted_of {α : Type} {d : Dv} {s : Sto} {xs : List α} {f : α → Dv} {g : α → PyData} (hd : seqOf s d = some (xs.map f)) (hf : ∀ x ∈ xs, pyOf s (f x) = some (g x)) (ha : alikeB (xs.map g) = true) (hb : sortB (xs.map g) = true) :
    gSorted [d] s = .ok ((xs.mergeSort (PySem.W.dataLe false g)).map f) s := by
  show (match seqOf s d with | some ds => (match ds.mapM (pyOf s) with | some ps => Rs.iff (alikeB ps && sortB ps) (.ok (sortD ds ps) s) | none => .bad) | none => .bad) = _
  rw [hd]
  show (match (xs.map f).mapM (pyOf s) with | some ps => Rs.iff (alikeB ps && sortB ps) (Rs.ok (sortD (xs.map f) ps) s) | none => .bad) = _
  rw [mapM_map hf]
  show Rs.iff (alikeB (xs.map g) && sortB (xs.map g)) (Rs.ok (sortD (xs.map f) (xs.map g)) s) = _
  rw [ha, hb, sortD_map]; rfl
theorem alike_strs (xs : List Str) : alikeB (xs.map PyData.str) = true := by
  refine List.all_eq_true.mpr fun d hd => List.all_eq_true.mpr fun e he => ?_
  obtain ⟨x, _, rfl⟩ := List.mem_map.mp hd
  obtain ⟨y, _, rfl⟩ := List.mem_map.mp he
  simp [PySem.W.alike]
theorem sortB_strs (xs : List Str) : sortB (xs.map PyData.str) = true := by
  refine Bool.or_eq_true_iff.mpr (.inr (List.all_eq_true.mpr fun d hd => ?_))
  obtain ⟨x, _, rfl⟩ := List.mem_map.mp hd
  rfl
theorem sorted_ls {xs : List Str} {s : Sto} : gSorted [.ls (xs.map .str)] s = .ok ((srtS xs).map .str) s := sorted_of (g := .str) rfl (fun x _ => rfl) (alike_strs xs) (sortB_strs xs)
theorem sorted_tup {xs : List Str} {s : Sto} : gSorted [.tup (xs.map .str)] s = .ok ((srtS xs).map .str) s := sorted_of (g := .str) rfl (fun x _ => rfl) (alike_strs xs) (sortB_strs xs)
theorem cut_take {ds : List Dv} {k : Int} (h : 0 ≤ k) : cutD ds none (some k) = ds.take k.toNat := by
  unfold cutD
  have e : HT.sIx ds.length ds.length (some k) = min k.toNat ds.length := by
    have := HT.sIx_nat ds.length ds.length k.toNat
    rwa [Int.toNat_of_nonneg h] at this
  rw [e]
  show (ds.drop 0).take (min k.toNat ds.length - 0) = _
  rw [List.drop_zero, Nat.sub_zero, List.take_eq_take_iff]; omega
theorem pool10_ok : ∀ x ∈ pool10, PyData.strOk x = true := by decide +kernel
theorem eq_nil {xs : List Str} {s : Sto} (hs : ∀ x ∈ xs, PyData.strOk x = true) : gEq (.ls (xs.map .str)) (.ls []) s = .ok (.bl xs.isEmpty) s := by
  have h1 : pyOf s (.ls (xs.map .str)) = some (.list (xs.map .str)) := by
    show ((xs.map Dv.str).mapM (py s 39)).map _ = _
    rw [mapM_map (g := py s 39) (f := Dv.str) (h := PyData.str) (xs := xs) fun x _ => rfl]; rfl
  have h2 : pyOf s (.ls []) = some (.list []) := rfl
  have h3 : SeqAt.shaped (.list (xs.map .str)) = true := by
    have a : ∀ xs : List Str, (∀ x ∈ xs, PyData.strOk x = true) → PyData.canLayAll0 (xs.map .str) = true ∧ PyData.depthAll (xs.map .str) = 0 := by
      intro xs
      induction xs with
      | nil => exact fun _ => ⟨by simp [PyData.canLayAll0], by simp [PyData.depthAll]⟩
      | cons x l ih =>
        intro h
        have ih := ih fun y hy => h y (List.mem_cons_of_mem _ hy)
        exact ⟨by simp [PyData.canLayAll0, PyData.canLay0, ih.1, h x List.mem_cons_self], by simpa [PyData.depthAll, PyData.depth] using ih.2⟩
    simp [SeqAt.shaped, PyData.canLay0, PyData.depth, (a xs hs).1, (a xs hs).2]
  have h4 : SeqAt.shaped (.list []) = true := by simp [SeqAt.shaped, PyData.canLay0, PyData.canLayAll0, PyData.depth, PyData.depthAll]
  show (match pyOf s (.ls (xs.map .str)), pyOf s (.ls []) with | some p, some q => Rs.iff (SeqAt.shaped p && SeqAt.shaped q) (Rs.ok (Dv.bl (PyData.eqv p q)) s) | _, _ => .bad) = _
  rw [h1, h2]
  show Rs.iff (SeqAt.shaped (.list (xs.map .str)) && SeqAt.shaped (.list [])) _ = _
  rw [h3, h4]
  cases xs with
  | nil => simp [Rs.iff, PyData.eqv, PyData.eqvAll]
  | cons x l => simp [Rs.iff, PyData.eqv, PyData.eqvAll]

/-! ### some of the names -/
def bOthers (φt : Phi) : Fn Ct :=
  fRet (fCall gTuple (fCons (fVal (fCallL gSorted (fCons (fSl (fVal (fLc (fSrc (fVar 1)) [4] (gNm 4) (fAndT (fTest (fBin gNe (fVar 4) (fVar 2))) (fTest (fBin gEq (fCall φt (fCons (fVar 0) (fCons (fC (.int 2)) (fNil)))) (fC (.int 0))))) (fVar 4))) (fNoPart) (fPart (fVar 3))) (fNil)))) (fNil)))
def OthersS (φ : Phi) : Prop := ∀ (t : Tap) (r : Sto) (lots : List Str) (name : Str) (most : Int), t.Wf → t.calls + lots.length ≤ 1000000 → lots.length ≤ 1000 → 0 ≤ most → Fl r →
  OkE nX (φ [.loc 0, .tup (lots.map .str), .str name, .int most] (tapOb t :: r)) fun d s' => ∃ (ws : List Str) (t' : Tap), d = .tup ((srtS ws).map .str) ∧ ws.Sublist lots ∧ name ∉ ws ∧ (ws.length : Int) ≤ most ∧
  s' = tapOb t' :: r ∧ t'.Wf ∧ t.calls ≤ t'.calls ∧ t'.calls ≤ t.calls + lots.length
theorem take_succ' {α : Type} {l : List α} {i : Nat} {x : α} (h : l[i]? = some x) : l.take (i + 1) = l.take i ++ [x] := by
  rw [List.take_succ, h]; rfl
theorem others_spec {φt : Phi} (ht : TakeS φt) : OthersS (fDef 4 5 (bOthers φt)) := by
  intro t r lots name most hw hc hl hm hf
  rw [ok_def]
  refine ⟨rfl, ?_⟩
  unfold bOthers
  simp only [Y1,Qf,Qt,Qu,Qa,Qg,Qv,Qw,Qx,Qy,Qh,Qz,Jy,Qi,Qb,Qj,Qk,Q0,Jz,Q1,Q2,J0,Q3,Q4,J1,Ql,Qm,Qn,Q5,Qo,Q6,Qp,Q7,Q8,J2,Q9,Ja,J3,J4,J5,Jb,J6,J7,Jc,J8,J9,Jd,Je,Ya,Jf,Yb,Jg,Jh,Y8,Yc,Ji,Yd,Ye,Yf,Yg,Yh,Y2,Jj,Qq,Jk,Yi,Jl,Jm,Yj,Y3,Yk,Yl,Y4,Ym,Y5,Yn,Qc,Yo,Jn,Yp,Yq,Y6,Yr,Qd,Jo,Jp,Y7,Ys,Yt,Yu,Yv,Yw,Yx,Jq,Jr,Qr,Js,Yy,Qe,Qs,List.set_cons_zero,List.set_cons_succ,List.map_cons,List.map_nil,List.replicate,List.cons_append,List.nil_append,List.length_cons,List.length_nil,Bool.false_eq_true,eq_self,if_true,if_false,Nat.zero_add,Jt,Yz,Ju,Jv,Jw,Y0,Jx,true_and]
  refine ⟨decide_eq_true (by rw [List.length_map]; omega), ?_⟩
  refine ok_lcI (fun i acc s => ∃ (t' : Tap) (ws : List Str), acc = ws.map .str ∧ s = tapOb t' :: r ∧ ws.Sublist (lots.take i) ∧ name ∉ ws ∧ t'.Wf ∧ t.calls ≤ t'.calls ∧ t'.calls ≤ t.calls + i)
    (fun _ _ _ _ => rfl) (fun i d acc s hd h => ?_) (fun acc s h => ?_) ⟨t, [], rfl, rfl, List.nil_sublist _, List.not_mem_nil, hw, by omega, by omega⟩
  · obtain ⟨t', ws, rfl, rfl, hs, hn, hw', hc1, hc2⟩ := h
    have hi : i < lots.length := by have := (List.getElem?_eq_some_iff.mp hd).1; rwa [List.length_map] at this
    rw [List.getElem?_map, List.getElem?_eq_getElem hi] at hd
    cases hd
    have hs' : ws.Sublist (lots.take (i + 1)) := by rw [take_succ' (List.getElem?_eq_getElem hi)]; exact hs.trans (List.sublist_append_left _ _)
    simp only [Y1,Qf,Qt,Qu,Qa,Qg,Qv,Qw,Qx,Qy,Qh,Qz,Jy,Qi,Qb,Qj,Qk,Q0,Jz,Q1,Q2,J0,Q3,Q4,J1,Ql,Qm,Qn,Q5,Qo,Q6,Qp,Q7,Q8,J2,Q9,Ja,J3,J4,J5,Jb,J6,J7,Jc,J8,J9,Jd,Je,Ya,Jf,Yb,Jg,Jh,Y8,Yc,Ji,Yd,Ye,Yf,Yg,Yh,Y2,Jj,Qq,Jk,Yi,Jl,Jm,Yj,Y3,Yk,Yl,Y4,Ym,Y5,Yn,Qc,Yo,Jn,Yp,Yq,Y6,Yr,Qd,Jo,Jp,Y7,Ys,Yt,Yu,Yv,Yw,Yx,Jq,Jr,Qr,Js,Yy,Qe,Qs,List.set_cons_zero,List.set_cons_succ,List.map_cons,List.map_nil,List.replicate,List.cons_append,List.nil_append,List.length_cons,List.length_nil,Bool.false_eq_true,eq_self,if_true,if_false,Nat.zero_add,Jt,Yz,Ju,Jv,Jw,Y0,Jx,true_and,wipeZ,ne_str]
    split
    · rename_i hne
      have hne : lots[i] ≠ name := by simpa using hne
      refine (ht t' r 2 hw' (by omega) (by omega) (by omega) hf).mono ?_
      rintro d s ⟨x, t2, rfl, hx0, hx1, rfl, hw2, hc2'⟩
      simp only [Y1,Qf,Qt,Qu,Qa,Qg,Qv,Qw,Qx,Qy,Qh,Qz,Jy,Qi,Qb,Qj,Qk,Q0,Jz,Q1,Q2,J0,Q3,Q4,J1,Ql,Qm,Qn,Q5,Qo,Q6,Qp,Q7,Q8,J2,Q9,Ja,J3,J4,J5,Jb,J6,J7,Jc,J8,J9,Jd,Je,Ya,Jf,Yb,Jg,Jh,Y8,Yc,Ji,Yd,Ye,Yf,Yg,Yh,Y2,Jj,Qq,Jk,Yi,Jl,Jm,Yj,Y3,Yk,Yl,Y4,Ym,Y5,Yn,Qc,Yo,Jn,Yp,Yq,Y6,Yr,Qd,Jo,Jp,Y7,Ys,Yt,Yu,Yv,Yw,Yx,Jq,Jr,Qr,Js,Yy,Qe,Qs,List.set_cons_zero,List.set_cons_succ,List.map_cons,List.map_nil,List.replicate,List.cons_append,List.nil_append,List.length_cons,List.length_nil,Bool.false_eq_true,eq_self,if_true,if_false,Nat.zero_add,Jt,Yz,Ju,Jv,Jw,Y0,Jx,true_and,eq_int]
      split
      · refine ⟨t2, ws ++ [lots[i]], by simp, rfl, ?_, ?_, hw2, by omega, by push_cast; omega⟩
        · rw [take_succ' (List.getElem?_eq_getElem hi)]; exact hs.append (List.Sublist.refl _)
        · intro hm
          rcases List.mem_append.mp hm with z | z
          · exact hn z
          · exact hne (List.mem_singleton.mp z).symm
      · exact ⟨t2, ws, rfl, rfl, hs', hn, hw2, by omega, by push_cast; omega⟩
    · exact ⟨t', ws, rfl, rfl, hs', hn, hw', by omega, by push_cast; omega⟩
  · obtain ⟨t', ws, rfl, rfl, hs, hn, hw', hc1, hc2⟩ := h
    rw [List.length_map] at hs hc2
    rw [List.take_length] at hs
    have e : gSl (.ls (ws.map .str)) none (some most) (tapOb t' :: r) = .ok (.ls ((ws.take most.toNat).map .str)) (tapOb t' :: r) := by
      show Rs.ok (Dv.ls (cutD _ _ _)) _ = _
      rw [cut_take hm, List.map_take]
    simp only [Y1,Qf,Qt,Qu,Qa,Qg,Qv,Qw,Qx,Qy,Qh,Qz,Jy,Qi,Qb,Qj,Qk,Q0,Jz,Q1,Q2,J0,Q3,Q4,J1,Ql,Qm,Qn,Q5,Qo,Q6,Qp,Q7,Q8,J2,Q9,Ja,J3,J4,J5,Jb,J6,J7,Jc,J8,J9,Jd,Je,Ya,Jf,Yb,Jg,Jh,Y8,Yc,Ji,Yd,Ye,Yf,Yg,Yh,Y2,Jj,Qq,Jk,Yi,Jl,Jm,Yj,Y3,Yk,Yl,Y4,Ym,Y5,Yn,Qc,Yo,Jn,Yp,Yq,Y6,Yr,Qd,Jo,Jp,Y7,Ys,Yt,Yu,Yv,Yw,Yx,Jq,Jr,Qr,Js,Yy,Qe,Qs,List.set_cons_zero,List.set_cons_succ,List.map_cons,List.map_nil,List.replicate,List.cons_append,List.nil_append,List.length_cons,List.length_nil,Bool.false_eq_true,eq_self,if_true,if_false,Nat.zero_add,Jt,Yz,Ju,Jv,Jw,Y0,Jx,true_and,e,sorted_ls,tuple_ls]
    refine fin_tap0 hf (below_tup (belows_strs _ _)) ⟨ws.take most.toNat, t', rfl, (List.take_sublist _ _).trans hs, fun hm => hn (List.mem_of_mem_take hm), ?_, rfl, hw', hc1, hc2⟩
    rw [List.length_take]; omega
def bNames (φt : Phi) : Fn Ct :=
  fSeq (fSet 2 (fVal (fLc (fSrc (fVar 1)) [3] (gNm 3) (fTest (fBin gEq (fCall φt (fCons (fVar 0) (fCons (fC (.int 2)) (fNil)))) (fC (.int 0)))) (fVar 3))))
  (fSeq (fIfS (fTest (fBin gEq (fVar 2) (fVal (fLst (fNil))))) (fSet 2 (fVal (fLst (fCons (fBin gIx (fVar 1) (fCall φt (fCons (fVar 0) (fCons (fCall gLen (fCons (fVar 1) (fNil))) (fNil))))) (fNil))))) (fNop))
  (fRet (fCall gTuple (fCons (fVal (fCallL gSorted (fCons (fVar 2) (fNil)))) (fNil)))))
def NamesS (φ : Phi) : Prop := ∀ (t : Tap) (r : Sto) (lots : List Str), (∀ x ∈ lots, x ∈ pool10) → t.Wf → t.calls + lots.length + 1 ≤ 1000000 → lots.length ≤ 1000 → 1 ≤ lots.length → Fl r →
  OkE nX (φ [.loc 0, .tup (lots.map .str)] (tapOb t :: r)) fun d s' => ∃ (ws : List Str) (t' : Tap), d = .tup ((srtS ws).map .str) ∧ ws.Sublist lots ∧ ws ≠ [] ∧
  s' = tapOb t' :: r ∧ t'.Wf ∧ t.calls ≤ t'.calls ∧ t'.calls ≤ t.calls + lots.length + 1
theorem names_spec {φt : Phi} (ht : TakeS φt) : NamesS (fDef 2 4 (bNames φt)) := by
  intro t r lots hp hw hc hl hl1 hf
  rw [ok_def]
  refine ⟨rfl, ?_⟩
  unfold bNames
  simp only [Y1,Qf,Qt,Qu,Qa,Qg,Qv,Qw,Qx,Qy,Qh,Qz,Jy,Qi,Qb,Qj,Qk,Q0,Jz,Q1,Q2,J0,Q3,Q4,J1,Ql,Qm,Qn,Q5,Qo,Q6,Qp,Q7,Q8,J2,Q9,Ja,J3,J4,J5,Jb,J6,J7,Jc,J8,J9,Jd,Je,Ya,Jf,Yb,Jg,Jh,Y8,Yc,Ji,Yd,Ye,Yf,Yg,Yh,Y2,Jj,Qq,Jk,Yi,Jl,Jm,Yj,Y3,Yk,Yl,Y4,Ym,Y5,Yn,Qc,Yo,Jn,Yp,Yq,Y6,Yr,Qd,Jo,Jp,Y7,Ys,Yt,Yu,Yv,Yw,Yx,Jq,Jr,Qr,Js,Yy,Qe,Qs,List.set_cons_zero,List.set_cons_succ,List.map_cons,List.map_nil,List.replicate,List.cons_append,List.nil_append,List.length_cons,List.length_nil,Bool.false_eq_true,eq_self,if_true,if_false,Nat.zero_add,Jt,Yz,Ju,Jv,Jw,Y0,Jx,true_and]
  refine ⟨decide_eq_true (by rw [List.length_map]; omega), ?_⟩
  refine ok_lcI (fun i acc s => ∃ (t' : Tap) (ws : List Str), acc = ws.map .str ∧ s = tapOb t' :: r ∧ ws.Sublist (lots.take i) ∧ t'.Wf ∧ t.calls ≤ t'.calls ∧ t'.calls ≤ t.calls + i)
    (fun _ _ _ _ => rfl) (fun i d acc s hd h => ?_) (fun acc s h => ?_) ⟨t, [], rfl, rfl, List.nil_sublist _, hw, by omega, by omega⟩
  · obtain ⟨t', ws, rfl, rfl, hs, hw', hc1, hc2⟩ := h
    have hi : i < lots.length := by have := (List.getElem?_eq_some_iff.mp hd).1; rwa [List.length_map] at this
    rw [List.getElem?_map, List.getElem?_eq_getElem hi] at hd
    cases hd
    have hs' : ws.Sublist (lots.take (i + 1)) := by rw [take_succ' (List.getElem?_eq_getElem hi)]; exact hs.trans (List.sublist_append_left _ _)
    simp only [Y1,Qf,Qt,Qu,Qa,Qg,Qv,Qw,Qx,Qy,Qh,Qz,Jy,Qi,Qb,Qj,Qk,Q0,Jz,Q1,Q2,J0,Q3,Q4,J1,Ql,Qm,Qn,Q5,Qo,Q6,Qp,Q7,Q8,J2,Q9,Ja,J3,J4,J5,Jb,J6,J7,Jc,J8,J9,Jd,Je,Ya,Jf,Yb,Jg,Jh,Y8,Yc,Ji,Yd,Ye,Yf,Yg,Yh,Y2,Jj,Qq,Jk,Yi,Jl,Jm,Yj,Y3,Yk,Yl,Y4,Ym,Y5,Yn,Qc,Yo,Jn,Yp,Yq,Y6,Yr,Qd,Jo,Jp,Y7,Ys,Yt,Yu,Yv,Yw,Yx,Jq,Jr,Qr,Js,Yy,Qe,Qs,List.set_cons_zero,List.set_cons_succ,List.map_cons,List.map_nil,List.replicate,List.cons_append,List.nil_append,List.length_cons,List.length_nil,Bool.false_eq_true,eq_self,if_true,if_false,Nat.zero_add,Jt,Yz,Ju,Jv,Jw,Y0,Jx,true_and,wipeZ]
    refine (ht t' r 2 hw' (by omega) (by omega) (by omega) hf).mono ?_
    rintro d s ⟨x, t2, rfl, hx0, hx1, rfl, hw2, hc2'⟩
    simp only [Y1,Qf,Qt,Qu,Qa,Qg,Qv,Qw,Qx,Qy,Qh,Qz,Jy,Qi,Qb,Qj,Qk,Q0,Jz,Q1,Q2,J0,Q3,Q4,J1,Ql,Qm,Qn,Q5,Qo,Q6,Qp,Q7,Q8,J2,Q9,Ja,J3,J4,J5,Jb,J6,J7,Jc,J8,J9,Jd,Je,Ya,Jf,Yb,Jg,Jh,Y8,Yc,Ji,Yd,Ye,Yf,Yg,Yh,Y2,Jj,Qq,Jk,Yi,Jl,Jm,Yj,Y3,Yk,Yl,Y4,Ym,Y5,Yn,Qc,Yo,Jn,Yp,Yq,Y6,Yr,Qd,Jo,Jp,Y7,Ys,Yt,Yu,Yv,Yw,Yx,Jq,Jr,Qr,Js,Yy,Qe,Qs,List.set_cons_zero,List.set_cons_succ,List.map_cons,List.map_nil,List.replicate,List.cons_append,List.nil_append,List.length_cons,List.length_nil,Bool.false_eq_true,eq_self,if_true,if_false,Nat.zero_add,Jt,Yz,Ju,Jv,Jw,Y0,Jx,true_and,eq_int]
    split
    · refine ⟨t2, ws ++ [lots[i]], by simp, rfl, ?_, hw2, by omega, by push_cast; omega⟩
      rw [take_succ' (List.getElem?_eq_getElem hi)]; exact hs.append (List.Sublist.refl _)
    · exact ⟨t2, ws, rfl, rfl, hs', hw2, by omega, by push_cast; omega⟩
  · obtain ⟨t', ws, rfl, rfl, hs, hw', hc1, hc2⟩ := h
    rw [List.length_map] at hs hc2
    rw [List.take_length] at hs
    simp only [Y1,Qf,Qt,Qu,Qa,Qg,Qv,Qw,Qx,Qy,Qh,Qz,Jy,Qi,Qb,Qj,Qk,Q0,Jz,Q1,Q2,J0,Q3,Q4,J1,Ql,Qm,Qn,Q5,Qo,Q6,Qp,Q7,Q8,J2,Q9,Ja,J3,J4,J5,Jb,J6,J7,Jc,J8,J9,Jd,Je,Ya,Jf,Yb,Jg,Jh,Y8,Yc,Ji,Yd,Ye,Yf,Yg,Yh,Y2,Jj,Qq,Jk,Yi,Jl,Jm,Yj,Y3,Yk,Yl,Y4,Ym,Y5,Yn,Qc,Yo,Jn,Yp,Yq,Y6,Yr,Qd,Jo,Jp,Y7,Ys,Yt,Yu,Yv,Yw,Yx,Jq,Jr,Qr,Js,Yy,Qe,Qs,List.set_cons_zero,List.set_cons_succ,List.map_cons,List.map_nil,List.replicate,List.cons_append,List.nil_append,List.length_cons,List.length_nil,Bool.false_eq_true,eq_self,if_true,if_false,Nat.zero_add,Jt,Yz,Ju,Jv,Jw,Y0,Jx,true_and]
    refine ⟨by decide, ?_⟩
    simp only [Y1,Qf,Qt,Qu,Qa,Qg,Qv,Qw,Qx,Qy,Qh,Qz,Jy,Qi,Qb,Qj,Qk,Q0,Jz,Q1,Q2,J0,Q3,Q4,J1,Ql,Qm,Qn,Q5,Qo,Q6,Qp,Q7,Q8,J2,Q9,Ja,J3,J4,J5,Jb,J6,J7,Jc,J8,J9,Jd,Je,Ya,Jf,Yb,Jg,Jh,Y8,Yc,Ji,Yd,Ye,Yf,Yg,Yh,Y2,Jj,Qq,Jk,Yi,Jl,Jm,Yj,Y3,Yk,Yl,Y4,Ym,Y5,Yn,Qc,Yo,Jn,Yp,Yq,Y6,Yr,Qd,Jo,Jp,Y7,Ys,Yt,Yu,Yv,Yw,Yx,Jq,Jr,Qr,Js,Yy,Qe,Qs,List.set_cons_zero,List.set_cons_succ,List.map_cons,List.map_nil,List.replicate,List.cons_append,List.nil_append,List.length_cons,List.length_nil,Bool.false_eq_true,eq_self,if_true,if_false,Nat.zero_add,Jt,Yz,Ju,Jv,Jw,Y0,Jx,true_and,eq_nil fun x hx => pool10_ok x (hp x (hs.subset hx))]
    split
    · simp only [Y1,Qf,Qt,Qu,Qa,Qg,Qv,Qw,Qx,Qy,Qh,Qz,Jy,Qi,Qb,Qj,Qk,Q0,Jz,Q1,Q2,J0,Q3,Q4,J1,Ql,Qm,Qn,Q5,Qo,Q6,Qp,Q7,Q8,J2,Q9,Ja,J3,J4,J5,Jb,J6,J7,Jc,J8,J9,Jd,Je,Ya,Jf,Yb,Jg,Jh,Y8,Yc,Ji,Yd,Ye,Yf,Yg,Yh,Y2,Jj,Qq,Jk,Yi,Jl,Jm,Yj,Y3,Yk,Yl,Y4,Ym,Y5,Yn,Qc,Yo,Jn,Yp,Yq,Y6,Yr,Qd,Jo,Jp,Y7,Ys,Yt,Yu,Yv,Yw,Yx,Jq,Jr,Qr,Js,Yy,Qe,Qs,List.set_cons_zero,List.set_cons_succ,List.map_cons,List.map_nil,List.replicate,List.cons_append,List.nil_append,List.length_cons,List.length_nil,Bool.false_eq_true,eq_self,if_true,if_false,Nat.zero_add,Jt,Yz,Ju,Jv,Jw,Y0,Jx,true_and,len_tup]
      refine (ht t' r ((lots.map Dv.str).length : Int) hw' (by omega) (by rw [List.length_map]; omega) (by rw [List.length_map]; omega) hf).mono ?_
      rintro d s ⟨x, t2, rfl, hx0, hx1, rfl, hw2, hc2'⟩
      rw [List.length_map] at hx1
      have hxn : x.toNat < lots.length := by omega
      simp only [Y1,Qf,Qt,Qu,Qa,Qg,Qv,Qw,Qx,Qy,Qh,Qz,Jy,Qi,Qb,Qj,Qk,Q0,Jz,Q1,Q2,J0,Q3,Q4,J1,Ql,Qm,Qn,Q5,Qo,Q6,Qp,Q7,Q8,J2,Q9,Ja,J3,J4,J5,Jb,J6,J7,Jc,J8,J9,Jd,Je,Ya,Jf,Yb,Jg,Jh,Y8,Yc,Ji,Yd,Ye,Yf,Yg,Yh,Y2,Jj,Qq,Jk,Yi,Jl,Jm,Yj,Y3,Yk,Yl,Y4,Ym,Y5,Yn,Qc,Yo,Jn,Yp,Yq,Y6,Yr,Qd,Jo,Jp,Y7,Ys,Yt,Yu,Yv,Yw,Yx,Jq,Jr,Qr,Js,Yy,Qe,Qs,List.set_cons_zero,List.set_cons_succ,List.map_cons,List.map_nil,List.replicate,List.cons_append,List.nil_append,List.length_cons,List.length_nil,Bool.false_eq_true,eq_self,if_true,if_false,Nat.zero_add,Jt,Yz,Ju,Jv,Jw,Y0,Jx,true_and,ix_tup hx0 (str_get hxn)]
      refine ⟨rfl, ?_⟩
      have e : gSorted [.ls [Dv.str lots[x.toNat]]] (tapOb t2 :: r) = .ok ((srtS [lots[x.toNat]]).map .str) (tapOb t2 :: r) := sorted_ls (xs := [lots[x.toNat]])
      rw [e]
      simp only [Y1,Qf,Qt,Qu,Qa,Qg,Qv,Qw,Qx,Qy,Qh,Qz,Jy,Qi,Qb,Qj,Qk,Q0,Jz,Q1,Q2,J0,Q3,Q4,J1,Ql,Qm,Qn,Q5,Qo,Q6,Qp,Q7,Q8,J2,Q9,Ja,J3,J4,J5,Jb,J6,J7,Jc,J8,J9,Jd,Je,Ya,Jf,Yb,Jg,Jh,Y8,Yc,Ji,Yd,Ye,Yf,Yg,Yh,Y2,Jj,Qq,Jk,Yi,Jl,Jm,Yj,Y3,Yk,Yl,Y4,Ym,Y5,Yn,Qc,Yo,Jn,Yp,Yq,Y6,Yr,Qd,Jo,Jp,Y7,Ys,Yt,Yu,Yv,Yw,Yx,Jq,Jr,Qr,Js,Yy,Qe,Qs,List.set_cons_zero,List.set_cons_succ,List.map_cons,List.map_nil,List.replicate,List.cons_append,List.nil_append,List.length_cons,List.length_nil,Bool.false_eq_true,eq_self,if_true,if_false,Nat.zero_add,Jt,Yz,Ju,Jv,Jw,Y0,Jx,true_and,tuple_ls]
      refine fin_tap0 hf (below_tup (belows_strs _ _)) ⟨[lots[x.toNat]], t2, rfl, List.singleton_sublist.mpr (List.getElem_mem _), List.cons_ne_nil _ _, rfl, hw2, by omega, by omega⟩
    · rename_i hne
      simp only [Y1,Qf,Qt,Qu,Qa,Qg,Qv,Qw,Qx,Qy,Qh,Qz,Jy,Qi,Qb,Qj,Qk,Q0,Jz,Q1,Q2,J0,Q3,Q4,J1,Ql,Qm,Qn,Q5,Qo,Q6,Qp,Q7,Q8,J2,Q9,Ja,J3,J4,J5,Jb,J6,J7,Jc,J8,J9,Jd,Je,Ya,Jf,Yb,Jg,Jh,Y8,Yc,Ji,Yd,Ye,Yf,Yg,Yh,Y2,Jj,Qq,Jk,Yi,Jl,Jm,Yj,Y3,Yk,Yl,Y4,Ym,Y5,Yn,Qc,Yo,Jn,Yp,Yq,Y6,Yr,Qd,Jo,Jp,Y7,Ys,Yt,Yu,Yv,Yw,Yx,Jq,Jr,Qr,Js,Yy,Qe,Qs,List.set_cons_zero,List.set_cons_succ,List.map_cons,List.map_nil,List.replicate,List.cons_append,List.nil_append,List.length_cons,List.length_nil,Bool.false_eq_true,eq_self,if_true,if_false,Nat.zero_add,Jt,Yz,Ju,Jv,Jw,Y0,Jx,true_and,sorted_ls,tuple_ls]
      exact fin_tap0 hf (below_tup (belows_strs _ _)) ⟨ws, t', rfl, hs, fun z => hne (by rw [z]; rfl), rfl, hw', hc1, by omega⟩
end Z

namespace Z
open PySem PySem.Spec PyProof.Rows L2

/-! ### words -/
def lettersS : Str := Str.ofString "abcdefghijklmnopqrstuvwxyz"
def isLet (c : Nat) : Bool := decide (c ∈ lettersS.cps.toList)
def isWordS (z : Str) : Bool := decide (1 ≤ z.length) && decide (z.length ≤ 8) && z.cps.toList.all isLet
theorem pool10_word : ∀ x ∈ pool10, isWordS x = true := by decide +kernel
theorem let_small : ∀ c ∈ lettersS.cps.toList, c < 0x110000 := by decide +kernel
theorem word_ok {x : Str} (h : isWordS x = true) : PyData.strOk x = true ∧ x.cps.size ≤ 8 := by
  unfold isWordS at h
  simp only [Bool.and_eq_true, decide_eq_true_eq] at h
  refine ⟨?_, h.1.2⟩
  show x.cps.all (· < 0x110000) = true
  rw [Array.all_eq_true_iff_forall_mem]
  intro c hc
  have := List.all_eq_true.mp h.2 c (Array.mem_toList_iff.mpr hc)
  exact decide_eq_true (let_small c (of_decide_eq_true this))

/-! ### a count -/
structure Pil where
  name : Str
  many : Int
  slip : Int
  others : List Str
def encS (xs : List Str) : Dv := .tup (xs.map .str)
def encP (p : Pil) : Dv := .tup [.str p.name, .int p.many, .int p.slip, encS p.others]
structure Cnt where
  lots : List Str
  piles : List Pil
  doubts : List (List Str)
def encC (c : Cnt) : Dv := .tup [encS c.lots, .tup (c.piles.map encP), .tup (c.doubts.map encS)]
structure PilOk (lots : List Str) (p : Pil) : Prop where
  name : p.name ∈ lots
  many0 : 0 ≤ p.many
  many1 : p.many ≤ 1000000
  slip0 : 0 ≤ p.slip
  slip1 : p.slip ≤ 10000
  others : p.others = [] ∨ ∃ ws : List Str, p.others = srtS ws ∧ ws.Sublist lots ∧ p.name ∉ ws ∧ ws.length ≤ 2
structure CntOk (c : Cnt) : Prop where
  len2 : 2 ≤ c.lots.length
  len6 : c.lots.length ≤ 6
  nd : c.lots.Nodup
  pool : ∀ x ∈ c.lots, isWordS x = true
  piles : ∀ p ∈ c.piles, PilOk c.lots p
  npiles : c.piles.length ≤ 10
  few : (c.piles.filter fun p => !p.others.isEmpty).length ≤ 3
  doubts : ∀ d ∈ c.doubts, ∃ ws : List Str, d = srtS ws ∧ ws.Sublist c.lots ∧ ws ≠ []
  ndoubts : c.doubts.length ≤ 12
  pl : ∀ x ∈ c.lots, x ∈ pool10
theorem belows_map {α : Type} {n : Nat} {f : α → Dv} (h : ∀ a, below n (f a) = true) (xs : List α) : belows n (xs.map f) = true := belows_all fun d hd => by
  obtain ⟨a, _, rfl⟩ := List.mem_map.mp hd
  exact h a
theorem below_encS (n : Nat) (xs : List Str) : below n (encS xs) = true := below_tup (belows_strs n xs)
theorem below_encP (n : Nat) (p : Pil) : below n (encP p) = true := below_tup (belows_cons rfl (belows_cons rfl (belows_cons rfl (belows_cons (below_encS n _) rfl))))
theorem below_encC (n : Nat) (c : Cnt) : below n (encC c) = true := below_tup (belows_cons (below_encS n _) (belows_cons (below_tup (belows_map (below_encP n) _)) (belows_cons (below_tup (belows_map (below_encS n) _)) rfl)))
def bCount (φt φl φo φn : Phi) : Fn Ct :=
  fSeq (fSet 1 (fCall φl (fCons (fVar 0) (fCons (fBin gAdd (fC (.int 2)) (fCall φt (fCons (fVar 0) (fCons (fC (.int 5)) (fNil))))) (fNil)))))
  (fSeq (fPar2 2 3 (fCons (fNew (fLst (fNil))) (fCons (fC (.int 0)) (fNil))))
  (fSeq (fFor (fRng1 (fCons (fBin gIx (fVal (fLst (fCons (fCall φt (fCons (fVar 0) (fCons (fC (.int 4)) (fNil)))) (fCons (fCall φt (fCons (fVar 0) (fCons (fC (.int 11)) (fNil)))) (fNil))))) (fCall φt (fCons (fVar 0) (fCons (fC (.int 2)) (fNil))))) (fNil))) (gNm 4) (fSeq (fSet 5 (fBin gIx (fVar 1) (fCall φt (fCons (fVar 0) (fCons (fCall gLen (fCons (fVar 1) (fNil))) (fNil))))))
  (fSeq (fSet 6 (fBin gIx (fVal (fLst (fCons (fC (.int 0)) (fCons (fCall φt (fCons (fVar 0) (fCons (fC (.int 5)) (fNil)))) (fCons (fCall φt (fCons (fVar 0) (fCons (fC (.int 100)) (fNil)))) (fCons (fCall φt (fCons (fVar 0) (fCons (fBin gAdd (fBin gPow (fC (.int 10)) (fC (.int 6))) (fC (.int 1))) (fNil)))) (fNil))))))) (fCall φt (fCons (fVar 0) (fCons (fC (.int 4)) (fNil))))))
  (fSeq (fSet 7 (fBin gIx (fVal (fLst (fCons (fC (.int 0)) (fCons (fC (.int 1)) (fCons (fCall φt (fCons (fVar 0) (fCons (fC (.int 4)) (fNil)))) (fCons (fCall φt (fCons (fVar 0) (fCons (fBin gAdd (fBin gPow (fC (.int 10)) (fC (.int 4))) (fC (.int 1))) (fNil)))) (fNil))))))) (fCall φt (fCons (fVar 0) (fCons (fC (.int 4)) (fNil))))))
  (fSeq (fSet 8 (fTup (fNil)))
  (fSeq (fIfS (fAndT (fTest (fBin gLt (fVar 3) (fC (.int 3)))) (fTest (fBin gEq (fCall φt (fCons (fVar 0) (fCons (fC (.int 3)) (fNil)))) (fC (.int 0))))) (fSeq (fSet 8 (fCall φo (fCons (fVar 0) (fCons (fVar 1) (fCons (fVar 5) (fCons (fC (.int 2)) (fNil)))))))
  (fSet 3 (fBin gAdd (fVar 3) (fC (.int 1))))) (fNop))
  (fDrop (fMt isL gAppend (fVar 2) (fCons (fTup (fCons (fVar 5) (fCons (fVar 6) (fCons (fVar 7) (fCons (fVar 8) (fNil)))))) (fNil))))))))))
  (fSeq (fSet 9 (fNew (fLst (fNil))))
  (fSeq (fFor (fRng1 (fCons (fBin gIx (fVal (fLst (fCons (fCall φt (fCons (fVar 0) (fCons (fC (.int 4)) (fNil)))) (fCons (fCall φt (fCons (fVar 0) (fCons (fC (.int 13)) (fNil)))) (fNil))))) (fCall φt (fCons (fVar 0) (fCons (fC (.int 2)) (fNil))))) (fNil))) (gNm 4) (fDrop (fMt isL gAppend (fVar 9) (fCons (fCall φn (fCons (fVar 0) (fCons (fVar 1) (fNil)))) (fNil)))))
  (fRet (fTup (fCons (fVar 1) (fCons (fCall gTuple (fCons (fVar 2) (fNil))) (fCons (fCall gTuple (fCons (fVar 9) (fNil))) (fNil))))))))))
def CountS (φ : Phi) : Prop := ∀ (t : Tap) (r : Sto), t.Wf → t.calls + 1000 ≤ 1000000 → Fl r →
  OkE nX (φ [.loc 0] (tapOb t :: r)) fun d s' => ∃ (c : Cnt) (t' : Tap), d = encC c ∧ CntOk c ∧ s' = tapOb t' :: r ∧ t'.Wf ∧ t.calls ≤ t'.calls ∧ t'.calls ≤ t.calls + 1000
theorem len2 {r : Sto} {a : Ob} : (r ++ [a]).length + 1 = r.length + 2 := by simp
theorem app2 {r : Sto} {a b : Ob} : r ++ [a] ++ [b] = r ++ [a, b] := by simp
/-- one of two ints, drawn -/
theorem pick2 {a b x : Int} (h0 : 0 ≤ x) (h1 : x < 2) : ∃ y, (∀ s : Sto, gIx (.ls [.int a, .int b]) (.int x) s = .ok (.int y) s) ∧ (y = a ∨ y = b) := by
  have : x = 0 ∨ x = 1 := by omega
  rcases this with rfl | rfl
  · exact ⟨a, fun _ => rfl, .inl rfl⟩
  · exact ⟨b, fun _ => rfl, .inr rfl⟩
theorem pick4 {a b c d x : Int} (h0 : 0 ≤ x) (h1 : x < 4) : ∃ y, (∀ s : Sto, gIx (.ls [.int a, .int b, .int c, .int d]) (.int x) s = .ok (.int y) s) ∧ (y = a ∨ y = b ∨ y = c ∨ y = d) := by
  have : x = 0 ∨ x = 1 ∨ x = 2 ∨ x = 3 := by omega
  rcases this with rfl | rfl | rfl | rfl
  · exact ⟨a, fun _ => rfl, .inl rfl⟩
  · exact ⟨b, fun _ => rfl, .inr (.inl rfl)⟩
  · exact ⟨c, fun _ => rfl, .inr (.inr (.inl rfl))⟩
  · exact ⟨d, fun _ => rfl, .inr (.inr (.inr rfl))⟩
theorem count_spec {φt φl φo φn : Phi} (ht : TakeS φt) (hl : LotsS φl) (ho : OthersS φo) (hn : NamesS φn) : CountS (fDef 1 10 (bCount φt φl φo φn)) := by
  intro t r hw hc hf
  rw [ok_def]
  refine ⟨rfl, ?_⟩
  unfold bCount
  simp only [Y1,Qf,Qt,Qu,Qa,Qg,Qv,Qw,Qx,Qy,Qh,Qz,Jy,Qi,Qb,Qj,Qk,Q0,Jz,Q1,Q2,J0,Q3,Q4,J1,Ql,Qm,Qn,Q5,Qo,Q6,Qp,Q7,Q8,J2,Q9,Ja,J3,J4,J5,Jb,J6,J7,Jc,J8,J9,Jd,Je,Ya,Jf,Yb,Jg,Jh,Y8,Yc,Ji,Yd,Ye,Yf,Yg,Yh,Y2,Jj,Qq,Jk,Yi,Jl,Jm,Yj,Y3,Yk,Yl,Y4,Ym,Y5,Yn,Qc,Yo,Jn,Yp,Yq,Y6,Yr,Qd,Jo,Jp,Y7,Ys,Yt,Yu,Yv,Yw,Yx,Jq,Jr,Qr,Js,Yy,Qe,Qs,List.set_cons_zero,List.set_cons_succ,List.map_cons,List.map_nil,List.replicate,List.cons_append,List.nil_append,List.length_cons,List.length_nil,Bool.false_eq_true,eq_self,if_true,if_false,Nat.zero_add,Jt,Yz,Ju,Jv,Jw,Y0,Jx,true_and]
  refine (ht t r 5 hw (by omega) (by omega) (by omega) hf).mono ?_
  rintro d s ⟨x, t1, rfl, hx0, hx1, rfl, hw1, hc1⟩
  simp only [Y1,Qf,Qt,Qu,Qa,Qg,Qv,Qw,Qx,Qy,Qh,Qz,Jy,Qi,Qb,Qj,Qk,Q0,Jz,Q1,Q2,J0,Q3,Q4,J1,Ql,Qm,Qn,Q5,Qo,Q6,Qp,Q7,Q8,J2,Q9,Ja,J3,J4,J5,Jb,J6,J7,Jc,J8,J9,Jd,Je,Ya,Jf,Yb,Jg,Jh,Y8,Yc,Ji,Yd,Ye,Yf,Yg,Yh,Y2,Jj,Qq,Jk,Yi,Jl,Jm,Yj,Y3,Yk,Yl,Y4,Ym,Y5,Yn,Qc,Yo,Jn,Yp,Yq,Y6,Yr,Qd,Jo,Jp,Y7,Ys,Yt,Yu,Yv,Yw,Yx,Jq,Jr,Qr,Js,Yy,Qe,Qs,List.set_cons_zero,List.set_cons_succ,List.map_cons,List.map_nil,List.replicate,List.cons_append,List.nil_append,List.length_cons,List.length_nil,Bool.false_eq_true,eq_self,if_true,if_false,Nat.zero_add,Jt,Yz,Ju,Jv,Jw,Y0,Jx,true_and,add_int]
  refine (hl t1 r (2 + x) hw1 (by omega) (by omega) (by omega) hf).mono ?_
  rintro d s ⟨lots, t2, rfl, hll, hnd, hpool, rfl, hw2, hc2, hc2'⟩
  have hlen : 2 ≤ lots.length ∧ lots.length ≤ 6 := by omega
  simp only [Y1,Qf,Qt,Qu,Qa,Qg,Qv,Qw,Qx,Qy,Qh,Qz,Jy,Qi,Qb,Qj,Qk,Q0,Jz,Q1,Q2,J0,Q3,Q4,J1,Ql,Qm,Qn,Q5,Qo,Q6,Qp,Q7,Q8,J2,Q9,Ja,J3,J4,J5,Jb,J6,J7,Jc,J8,J9,Jd,Je,Ya,Jf,Yb,Jg,Jh,Y8,Yc,Ji,Yd,Ye,Yf,Yg,Yh,Y2,Jj,Qq,Jk,Yi,Jl,Jm,Yj,Y3,Yk,Yl,Y4,Ym,Y5,Yn,Qc,Yo,Jn,Yp,Yq,Y6,Yr,Qd,Jo,Jp,Y7,Ys,Yt,Yu,Yv,Yw,Yx,Jq,Jr,Qr,Js,Yy,Qe,Qs,List.set_cons_zero,List.set_cons_succ,List.map_cons,List.map_nil,List.replicate,List.cons_append,List.nil_append,List.length_cons,List.length_nil,Bool.false_eq_true,eq_self,if_true,if_false,Nat.zero_add,Jt,Yz,Ju,Jv,Jw,Y0,Jx,true_and]
  refine ⟨rfl, ?_⟩
  refine (ht t2 (r ++ [.lst []]) 4 hw2 (by omega) (by omega) (by omega) (hf.app (.one rfl))).mono ?_
  rintro d s ⟨x1, t3, rfl, h10, h11, rfl, hw3, hc3⟩
  simp only [Y1,Qf,Qt,Qu,Qa,Qg,Qv,Qw,Qx,Qy,Qh,Qz,Jy,Qi,Qb,Qj,Qk,Q0,Jz,Q1,Q2,J0,Q3,Q4,J1,Ql,Qm,Qn,Q5,Qo,Q6,Qp,Q7,Q8,J2,Q9,Ja,J3,J4,J5,Jb,J6,J7,Jc,J8,J9,Jd,Je,Ya,Jf,Yb,Jg,Jh,Y8,Yc,Ji,Yd,Ye,Yf,Yg,Yh,Y2,Jj,Qq,Jk,Yi,Jl,Jm,Yj,Y3,Yk,Yl,Y4,Ym,Y5,Yn,Qc,Yo,Jn,Yp,Yq,Y6,Yr,Qd,Jo,Jp,Y7,Ys,Yt,Yu,Yv,Yw,Yx,Jq,Jr,Qr,Js,Yy,Qe,Qs,List.set_cons_zero,List.set_cons_succ,List.map_cons,List.map_nil,List.replicate,List.cons_append,List.nil_append,List.length_cons,List.length_nil,Bool.false_eq_true,eq_self,if_true,if_false,Nat.zero_add,Jt,Yz,Ju,Jv,Jw,Y0,Jx,true_and]
  refine (ht t3 (r ++ [.lst []]) 11 hw3 (by omega) (by omega) (by omega) (hf.app (.one rfl))).mono ?_
  rintro d s ⟨x2, t4, rfl, h20, h21, rfl, hw4, hc4⟩
  simp only [Y1,Qf,Qt,Qu,Qa,Qg,Qv,Qw,Qx,Qy,Qh,Qz,Jy,Qi,Qb,Qj,Qk,Q0,Jz,Q1,Q2,J0,Q3,Q4,J1,Ql,Qm,Qn,Q5,Qo,Q6,Qp,Q7,Q8,J2,Q9,Ja,J3,J4,J5,Jb,J6,J7,Jc,J8,J9,Jd,Je,Ya,Jf,Yb,Jg,Jh,Y8,Yc,Ji,Yd,Ye,Yf,Yg,Yh,Y2,Jj,Qq,Jk,Yi,Jl,Jm,Yj,Y3,Yk,Yl,Y4,Ym,Y5,Yn,Qc,Yo,Jn,Yp,Yq,Y6,Yr,Qd,Jo,Jp,Y7,Ys,Yt,Yu,Yv,Yw,Yx,Jq,Jr,Qr,Js,Yy,Qe,Qs,List.set_cons_zero,List.set_cons_succ,List.map_cons,List.map_nil,List.replicate,List.cons_append,List.nil_append,List.length_cons,List.length_nil,Bool.false_eq_true,eq_self,if_true,if_false,Nat.zero_add,Jt,Yz,Ju,Jv,Jw,Y0,Jx,true_and]
  refine ⟨rfl, ?_⟩
  refine (ht t4 (r ++ [.lst []]) 2 hw4 (by omega) (by omega) (by omega) (hf.app (.one rfl))).mono ?_
  rintro d s ⟨x3, t5, rfl, h30, h31, rfl, hw5, hc5⟩
  obtain ⟨y, ey, hy⟩ := pick2 (a := x1) (b := x2) h30 h31
  simp only [Y1,Qf,Qt,Qu,Qa,Qg,Qv,Qw,Qx,Qy,Qh,Qz,Jy,Qi,Qb,Qj,Qk,Q0,Jz,Q1,Q2,J0,Q3,Q4,J1,Ql,Qm,Qn,Q5,Qo,Q6,Qp,Q7,Q8,J2,Q9,Ja,J3,J4,J5,Jb,J6,J7,Jc,J8,J9,Jd,Je,Ya,Jf,Yb,Jg,Jh,Y8,Yc,Ji,Yd,Ye,Yf,Yg,Yh,Y2,Jj,Qq,Jk,Yi,Jl,Jm,Yj,Y3,Yk,Yl,Y4,Ym,Y5,Yn,Qc,Yo,Jn,Yp,Yq,Y6,Yr,Qd,Jo,Jp,Y7,Ys,Yt,Yu,Yv,Yw,Yx,Jq,Jr,Qr,Js,Yy,Qe,Qs,List.set_cons_zero,List.set_cons_succ,List.map_cons,List.map_nil,List.replicate,List.cons_append,List.nil_append,List.length_cons,List.length_nil,Bool.false_eq_true,eq_self,if_true,if_false,Nat.zero_add,Jt,Yz,Ju,Jv,Jw,Y0,Jx,true_and,ey]
  have hy01 : 0 ≤ y ∧ y ≤ 10 := by omega
  refine ⟨inRng_small (by omega) (by omega), ?_⟩
  have hy02 : y.toNat ≤ 10 := by omega
  clear hy ey h30 h31 h20 h21 h10 h11
  have hle5 : t5.calls ≤ t.calls + 20 := by omega
  have hge5 : t.calls ≤ t5.calls := by omega
  clear hc1 hc2 hc2' hc3 hc4 hc5 hw1 hw2 hw3 hw4 hw
  refine ok_loop (fun i env s => ∃ (t' : Tap) (ps : List Pil) (few : Int) (v4 v5 v6 v7 v8 : Option Dv), env = [some (.loc 0), some (.tup (lots.map .str)), some (.loc (r.length + 1)), some (.int few), v4, v5, v6, v7, v8, none] ∧ s = tapOb t' :: (r ++ [.lst (ps.map encP)]) ∧
      ps.length = i ∧ (∀ p ∈ ps, PilOk lots p) ∧ ((ps.filter fun p => !p.others.isEmpty).length : Int) ≤ few ∧ few ≤ 3 ∧ t'.Wf ∧ t.calls ≤ t'.calls ∧ t'.calls ≤ t.calls + 20 + 20 * i)
    (fun _ _ _ _ => rfl) (fun i d env s hd h => ?_) (fun env s h => ?_) ⟨t5, [], 0, _, _, _, _, _, rfl, rfl, rfl, fun p hp => absurd hp List.not_mem_nil, by decide, by decide, hw5, hge5, by omega⟩
  · obtain ⟨t6, ps, few, v4, v5, v6, v7, v8, rfl, rfl, rfl, hps, hfew, hfew3, hw6, hge6, hle6⟩ := h
    obtain ⟨hi, rfl⟩ := rngD_get hd
    rw [show (0 : Int) + (ps.length : Int) = ps.length by omega] at *
    have hfr : ∀ ps : List Pil, Fl (r ++ [Ob.lst (ps.map encP)]) := fun ps => hf.app (.one (belows_map (below_encP 0) ps))
    simp only [Y1,Qf,Qt,Qu,Qa,Qg,Qv,Qw,Qx,Qy,Qh,Qz,Jy,Qi,Qb,Qj,Qk,Q0,Jz,Q1,Q2,J0,Q3,Q4,J1,Ql,Qm,Qn,Q5,Qo,Q6,Qp,Q7,Q8,J2,Q9,Ja,J3,J4,J5,Jb,J6,J7,Jc,J8,J9,Jd,Je,Ya,Jf,Yb,Jg,Jh,Y8,Yc,Ji,Yd,Ye,Yf,Yg,Yh,Y2,Jj,Qq,Jk,Yi,Jl,Jm,Yj,Y3,Yk,Yl,Y4,Ym,Y5,Yn,Qc,Yo,Jn,Yp,Yq,Y6,Yr,Qd,Jo,Jp,Y7,Ys,Yt,Yu,Yv,Yw,Yx,Jq,Jr,Qr,Js,Yy,Qe,Qs,List.set_cons_zero,List.set_cons_succ,List.map_cons,List.map_nil,List.replicate,List.cons_append,List.nil_append,List.length_cons,List.length_nil,Bool.false_eq_true,eq_self,if_true,if_false,Nat.zero_add,Jt,Yz,Ju,Jv,Jw,Y0,Jx,true_and,len_tup]
    refine (ht t6 _ ((lots.map Dv.str).length : Int) hw6 (by omega) (by rw [List.length_map]; omega) (by rw [List.length_map]; omega) (hfr ps)).mono ?_
    rintro d s ⟨x, t7, rfl, hx0, hx1, rfl, hw7, hc7⟩
    rw [List.length_map] at hx1
    have hxn : x.toNat < lots.length := by omega
    simp only [Y1,Qf,Qt,Qu,Qa,Qg,Qv,Qw,Qx,Qy,Qh,Qz,Jy,Qi,Qb,Qj,Qk,Q0,Jz,Q1,Q2,J0,Q3,Q4,J1,Ql,Qm,Qn,Q5,Qo,Q6,Qp,Q7,Q8,J2,Q9,Ja,J3,J4,J5,Jb,J6,J7,Jc,J8,J9,Jd,Je,Ya,Jf,Yb,Jg,Jh,Y8,Yc,Ji,Yd,Ye,Yf,Yg,Yh,Y2,Jj,Qq,Jk,Yi,Jl,Jm,Yj,Y3,Yk,Yl,Y4,Ym,Y5,Yn,Qc,Yo,Jn,Yp,Yq,Y6,Yr,Qd,Jo,Jp,Y7,Ys,Yt,Yu,Yv,Yw,Yx,Jq,Jr,Qr,Js,Yy,Qe,Qs,List.set_cons_zero,List.set_cons_succ,List.map_cons,List.map_nil,List.replicate,List.cons_append,List.nil_append,List.length_cons,List.length_nil,Bool.false_eq_true,eq_self,if_true,if_false,Nat.zero_add,Jt,Yz,Ju,Jv,Jw,Y0,Jx,true_and,ix_tup hx0 (str_get hxn)]
    refine (ht t7 _ 5 hw7 (by omega) (by omega) (by omega) (hfr ps)).mono ?_
    rintro d s ⟨x1, t8, rfl, h10, h11, rfl, hw8, hc8⟩
    simp only [Y1,Qf,Qt,Qu,Qa,Qg,Qv,Qw,Qx,Qy,Qh,Qz,Jy,Qi,Qb,Qj,Qk,Q0,Jz,Q1,Q2,J0,Q3,Q4,J1,Ql,Qm,Qn,Q5,Qo,Q6,Qp,Q7,Q8,J2,Q9,Ja,J3,J4,J5,Jb,J6,J7,Jc,J8,J9,Jd,Je,Ya,Jf,Yb,Jg,Jh,Y8,Yc,Ji,Yd,Ye,Yf,Yg,Yh,Y2,Jj,Qq,Jk,Yi,Jl,Jm,Yj,Y3,Yk,Yl,Y4,Ym,Y5,Yn,Qc,Yo,Jn,Yp,Yq,Y6,Yr,Qd,Jo,Jp,Y7,Ys,Yt,Yu,Yv,Yw,Yx,Jq,Jr,Qr,Js,Yy,Qe,Qs,List.set_cons_zero,List.set_cons_succ,List.map_cons,List.map_nil,List.replicate,List.cons_append,List.nil_append,List.length_cons,List.length_nil,Bool.false_eq_true,eq_self,if_true,if_false,Nat.zero_add,Jt,Yz,Ju,Jv,Jw,Y0,Jx,true_and]
    refine (ht t8 _ 100 hw8 (by omega) (by omega) (by omega) (hfr ps)).mono ?_
    rintro d s ⟨x2, t9, rfl, h20, h21, rfl, hw9, hc9⟩
    simp only [Y1,Qf,Qt,Qu,Qa,Qg,Qv,Qw,Qx,Qy,Qh,Qz,Jy,Qi,Qb,Qj,Qk,Q0,Jz,Q1,Q2,J0,Q3,Q4,J1,Ql,Qm,Qn,Q5,Qo,Q6,Qp,Q7,Q8,J2,Q9,Ja,J3,J4,J5,Jb,J6,J7,Jc,J8,J9,Jd,Je,Ya,Jf,Yb,Jg,Jh,Y8,Yc,Ji,Yd,Ye,Yf,Yg,Yh,Y2,Jj,Qq,Jk,Yi,Jl,Jm,Yj,Y3,Yk,Yl,Y4,Ym,Y5,Yn,Qc,Yo,Jn,Yp,Yq,Y6,Yr,Qd,Jo,Jp,Y7,Ys,Yt,Yu,Yv,Yw,Yx,Jq,Jr,Qr,Js,Yy,Qe,Qs,List.set_cons_zero,List.set_cons_succ,List.map_cons,List.map_nil,List.replicate,List.cons_append,List.nil_append,List.length_cons,List.length_nil,Bool.false_eq_true,eq_self,if_true,if_false,Nat.zero_add,Jt,Yz,Ju,Jv,Jw,Y0,Jx,true_and,pow_ok (show (0 : Int) ≤ 6 ∧ (6 : Int) ≤ 1000000 by decide) (show -(2 ^ 64) < (10 : Int) ∧ (10 : Int) < 2 ^ 64 by decide),add_int]
    rw [show (10 : Int) ^ (Int.toNat 6) + 1 = 1000001 by decide]
    refine (ht t9 _ 1000001 hw9 (by omega) (by omega) (by omega) (hfr ps)).mono ?_
    rintro d s ⟨x3, t10, rfl, h30, h31, rfl, hw10, hc10⟩
    simp only [Y1,Qf,Qt,Qu,Qa,Qg,Qv,Qw,Qx,Qy,Qh,Qz,Jy,Qi,Qb,Qj,Qk,Q0,Jz,Q1,Q2,J0,Q3,Q4,J1,Ql,Qm,Qn,Q5,Qo,Q6,Qp,Q7,Q8,J2,Q9,Ja,J3,J4,J5,Jb,J6,J7,Jc,J8,J9,Jd,Je,Ya,Jf,Yb,Jg,Jh,Y8,Yc,Ji,Yd,Ye,Yf,Yg,Yh,Y2,Jj,Qq,Jk,Yi,Jl,Jm,Yj,Y3,Yk,Yl,Y4,Ym,Y5,Yn,Qc,Yo,Jn,Yp,Yq,Y6,Yr,Qd,Jo,Jp,Y7,Ys,Yt,Yu,Yv,Yw,Yx,Jq,Jr,Qr,Js,Yy,Qe,Qs,List.set_cons_zero,List.set_cons_succ,List.map_cons,List.map_nil,List.replicate,List.cons_append,List.nil_append,List.length_cons,List.length_nil,Bool.false_eq_true,eq_self,if_true,if_false,Nat.zero_add,Jt,Yz,Ju,Jv,Jw,Y0,Jx,true_and]
    refine ⟨rfl, ?_⟩
    refine (ht t10 _ 4 hw10 (by omega) (by omega) (by omega) (hfr ps)).mono ?_
    rintro d s ⟨x4, t11, rfl, h40, h41, rfl, hw11, hc11⟩
    obtain ⟨many, em, hmany⟩ := pick4 (a := 0) (b := x1) (c := x2) (d := x3) h40 h41
    simp only [Y1,Qf,Qt,Qu,Qa,Qg,Qv,Qw,Qx,Qy,Qh,Qz,Jy,Qi,Qb,Qj,Qk,Q0,Jz,Q1,Q2,J0,Q3,Q4,J1,Ql,Qm,Qn,Q5,Qo,Q6,Qp,Q7,Q8,J2,Q9,Ja,J3,J4,J5,Jb,J6,J7,Jc,J8,J9,Jd,Je,Ya,Jf,Yb,Jg,Jh,Y8,Yc,Ji,Yd,Ye,Yf,Yg,Yh,Y2,Jj,Qq,Jk,Yi,Jl,Jm,Yj,Y3,Yk,Yl,Y4,Ym,Y5,Yn,Qc,Yo,Jn,Yp,Yq,Y6,Yr,Qd,Jo,Jp,Y7,Ys,Yt,Yu,Yv,Yw,Yx,Jq,Jr,Qr,Js,Yy,Qe,Qs,List.set_cons_zero,List.set_cons_succ,List.map_cons,List.map_nil,List.replicate,List.cons_append,List.nil_append,List.length_cons,List.length_nil,Bool.false_eq_true,eq_self,if_true,if_false,Nat.zero_add,Jt,Yz,Ju,Jv,Jw,Y0,Jx,true_and,em]
    refine (ht t11 _ 4 hw11 (by omega) (by omega) (by omega) (hfr ps)).mono ?_
    rintro d s ⟨y1, t12, rfl, g10, g11, rfl, hw12, hc12⟩
    simp only [Y1,Qf,Qt,Qu,Qa,Qg,Qv,Qw,Qx,Qy,Qh,Qz,Jy,Qi,Qb,Qj,Qk,Q0,Jz,Q1,Q2,J0,Q3,Q4,J1,Ql,Qm,Qn,Q5,Qo,Q6,Qp,Q7,Q8,J2,Q9,Ja,J3,J4,J5,Jb,J6,J7,Jc,J8,J9,Jd,Je,Ya,Jf,Yb,Jg,Jh,Y8,Yc,Ji,Yd,Ye,Yf,Yg,Yh,Y2,Jj,Qq,Jk,Yi,Jl,Jm,Yj,Y3,Yk,Yl,Y4,Ym,Y5,Yn,Qc,Yo,Jn,Yp,Yq,Y6,Yr,Qd,Jo,Jp,Y7,Ys,Yt,Yu,Yv,Yw,Yx,Jq,Jr,Qr,Js,Yy,Qe,Qs,List.set_cons_zero,List.set_cons_succ,List.map_cons,List.map_nil,List.replicate,List.cons_append,List.nil_append,List.length_cons,List.length_nil,Bool.false_eq_true,eq_self,if_true,if_false,Nat.zero_add,Jt,Yz,Ju,Jv,Jw,Y0,Jx,true_and,pow_ok (show (0 : Int) ≤ 4 ∧ (4 : Int) ≤ 1000000 by decide) (show -(2 ^ 64) < (10 : Int) ∧ (10 : Int) < 2 ^ 64 by decide),add_int]
    rw [show (10 : Int) ^ (Int.toNat 4) + 1 = 10001 by decide]
    refine (ht t12 _ 10001 hw12 (by omega) (by omega) (by omega) (hfr ps)).mono ?_
    rintro d s ⟨y2, t13, rfl, g20, g21, rfl, hw13, hc13⟩
    simp only [Y1,Qf,Qt,Qu,Qa,Qg,Qv,Qw,Qx,Qy,Qh,Qz,Jy,Qi,Qb,Qj,Qk,Q0,Jz,Q1,Q2,J0,Q3,Q4,J1,Ql,Qm,Qn,Q5,Qo,Q6,Qp,Q7,Q8,J2,Q9,Ja,J3,J4,J5,Jb,J6,J7,Jc,J8,J9,Jd,Je,Ya,Jf,Yb,Jg,Jh,Y8,Yc,Ji,Yd,Ye,Yf,Yg,Yh,Y2,Jj,Qq,Jk,Yi,Jl,Jm,Yj,Y3,Yk,Yl,Y4,Ym,Y5,Yn,Qc,Yo,Jn,Yp,Yq,Y6,Yr,Qd,Jo,Jp,Y7,Ys,Yt,Yu,Yv,Yw,Yx,Jq,Jr,Qr,Js,Yy,Qe,Qs,List.set_cons_zero,List.set_cons_succ,List.map_cons,List.map_nil,List.replicate,List.cons_append,List.nil_append,List.length_cons,List.length_nil,Bool.false_eq_true,eq_self,if_true,if_false,Nat.zero_add,Jt,Yz,Ju,Jv,Jw,Y0,Jx,true_and]
    refine ⟨rfl, ?_⟩
    refine (ht t13 _ 4 hw13 (by omega) (by omega) (by omega) (hfr ps)).mono ?_
    rintro d s ⟨y3, t14, rfl, g30, g31, rfl, hw14, hc14⟩
    obtain ⟨slip, es, hslip⟩ := pick4 (a := 0) (b := 1) (c := y1) (d := y2) g30 g31
    simp only [Y1,Qf,Qt,Qu,Qa,Qg,Qv,Qw,Qx,Qy,Qh,Qz,Jy,Qi,Qb,Qj,Qk,Q0,Jz,Q1,Q2,J0,Q3,Q4,J1,Ql,Qm,Qn,Q5,Qo,Q6,Qp,Q7,Q8,J2,Q9,Ja,J3,J4,J5,Jb,J6,J7,Jc,J8,J9,Jd,Je,Ya,Jf,Yb,Jg,Jh,Y8,Yc,Ji,Yd,Ye,Yf,Yg,Yh,Y2,Jj,Qq,Jk,Yi,Jl,Jm,Yj,Y3,Yk,Yl,Y4,Ym,Y5,Yn,Qc,Yo,Jn,Yp,Yq,Y6,Yr,Qd,Jo,Jp,Y7,Ys,Yt,Yu,Yv,Yw,Yx,Jq,Jr,Qr,Js,Yy,Qe,Qs,List.set_cons_zero,List.set_cons_succ,List.map_cons,List.map_nil,List.replicate,List.cons_append,List.nil_append,List.length_cons,List.length_nil,Bool.false_eq_true,eq_self,if_true,if_false,Nat.zero_add,Jt,Yz,Ju,Jv,Jw,Y0,Jx,true_and,es]
    refine ⟨rfl, ?_⟩
    have hm01 : 0 ≤ many ∧ many ≤ 1000000 := by omega
    have hs01 : 0 ≤ slip ∧ slip ≤ 10000 := by omega
    -- the end of a turn
    have turn : ∀ (t' : Tap) (zs : List Str) (few' : Int), PilOk lots ⟨lots[x.toNat], many, slip, zs⟩ → (if zs = [] then few ≤ few' else few + 1 ≤ few') → few' ≤ 3 → t'.Wf → t.calls ≤ t'.calls → t'.calls ≤ t.calls + 20 + 20 * (ps.length : Int) + 20 →
        ∀ v4 : Option Dv, ∃ (t'' : Tap) (ps' : List Pil) (few2 : Int) (w4 w5 w6 w7 w8 : Option Dv), [some (.loc 0), some (.tup (lots.map Dv.str)), some (.loc (r.length + 1)), some (.int few'), v4, some (.str lots[x.toNat]), some (.int many), some (.int slip), some (encS zs), none] =
          [some (.loc 0), some (.tup (lots.map Dv.str)), some (.loc (r.length + 1)), some (.int few2), w4, w5, w6, w7, w8, none] ∧ tapOb t' :: (r ++ [Ob.lst (ps.map encP ++ [.tup [.str lots[x.toNat], .int many, .int slip, encS zs]])]) = tapOb t'' :: (r ++ [.lst (ps'.map encP)]) ∧
          ps'.length = ps.length + 1 ∧ (∀ p ∈ ps', PilOk lots p) ∧ ((ps'.filter fun p => !p.others.isEmpty).length : Int) ≤ few2 ∧ few2 ≤ 3 ∧ t''.Wf ∧ t.calls ≤ t''.calls ∧ t''.calls ≤ t.calls + 20 + 20 * ((ps.length + 1 : Nat) : Int) := by
      intro t' zs few' hok hff h3 hw' h1 h2 v4
      refine ⟨t', ps ++ [⟨lots[x.toNat], many, slip, zs⟩], few', v4, _, _, _, _, rfl, by simp [encP], by simp, fun p hp => ?_, ?_, h3, hw', h1, by push_cast; omega⟩
      · rcases List.mem_append.mp hp with z | z
        · exact hps p z
        · rw [List.mem_singleton.mp z]; exact hok
      · rw [List.filter_append, List.length_append]
        by_cases hz : zs = []
        · rw [if_pos hz] at hff
          subst hz
          show ((_ + 0 : Nat) : Int) ≤ few'
          omega
        · rw [if_neg hz] at hff
          have : ([(⟨lots[x.toNat], many, slip, zs⟩ : Pil)].filter fun p => !p.others.isEmpty).length ≤ 1 := List.length_filter_le _ _
          push_cast
          omega
    have okp : ∀ zs : List Str, (zs = [] ∨ ∃ ws : List Str, zs = srtS ws ∧ ws.Sublist lots ∧ lots[x.toNat] ∉ ws ∧ ws.length ≤ 2) → PilOk lots ⟨lots[x.toNat], many, slip, zs⟩ := fun zs hz => ⟨List.getElem_mem _, hm01.1, hm01.2, hs01.1, hs01.2, hz⟩
    have app : ∀ (t' : Tap) (d : Dv), gAppend (.loc (r.length + 1)) [d] (tapOb t' :: (r ++ [Ob.lst (ps.map encP)])) = .ok .non (tapOb t' :: (r ++ [Ob.lst (ps.map encP ++ [d])])) := fun t' d => by
      rw [append_loc st_get1 (by rw [List.length_map]; omega), st_set1]
    have lst : ∀ (t' : Tap), isL (.loc (r.length + 1)) (tapOb t' :: (r ++ [Ob.lst (ps.map encP)])) = true := fun t' => isL_loc st_get1
    simp only [Y1,Qf,Qt,Qu,Qa,Qg,Qv,Qw,Qx,Qy,Qh,Qz,Jy,Qi,Qb,Qj,Qk,Q0,Jz,Q1,Q2,J0,Q3,Q4,J1,Ql,Qm,Qn,Q5,Qo,Q6,Qp,Q7,Q8,J2,Q9,Ja,J3,J4,J5,Jb,J6,J7,Jc,J8,J9,Jd,Je,Ya,Jf,Yb,Jg,Jh,Y8,Yc,Ji,Yd,Ye,Yf,Yg,Yh,Y2,Jj,Qq,Jk,Yi,Jl,Jm,Yj,Y3,Yk,Yl,Y4,Ym,Y5,Yn,Qc,Yo,Jn,Yp,Yq,Y6,Yr,Qd,Jo,Jp,Y7,Ys,Yt,Yu,Yv,Yw,Yx,Jq,Jr,Qr,Js,Yy,Qe,Qs,List.set_cons_zero,List.set_cons_succ,List.map_cons,List.map_nil,List.replicate,List.cons_append,List.nil_append,List.length_cons,List.length_nil,Bool.false_eq_true,eq_self,if_true,if_false,Nat.zero_add,Jt,Yz,Ju,Jv,Jw,Y0,Jx,true_and,lt_int]
    split
    · rename_i hlt
      have hlt : few < 3 := of_decide_eq_true hlt
      refine (ht t14 _ 3 hw14 (by omega) (by omega) (by omega) (hfr ps)).mono ?_
      rintro d s ⟨z1, t15, rfl, k10, k11, rfl, hw15, hc15⟩
      simp only [Y1,Qf,Qt,Qu,Qa,Qg,Qv,Qw,Qx,Qy,Qh,Qz,Jy,Qi,Qb,Qj,Qk,Q0,Jz,Q1,Q2,J0,Q3,Q4,J1,Ql,Qm,Qn,Q5,Qo,Q6,Qp,Q7,Q8,J2,Q9,Ja,J3,J4,J5,Jb,J6,J7,Jc,J8,J9,Jd,Je,Ya,Jf,Yb,Jg,Jh,Y8,Yc,Ji,Yd,Ye,Yf,Yg,Yh,Y2,Jj,Qq,Jk,Yi,Jl,Jm,Yj,Y3,Yk,Yl,Y4,Ym,Y5,Yn,Qc,Yo,Jn,Yp,Yq,Y6,Yr,Qd,Jo,Jp,Y7,Ys,Yt,Yu,Yv,Yw,Yx,Jq,Jr,Qr,Js,Yy,Qe,Qs,List.set_cons_zero,List.set_cons_succ,List.map_cons,List.map_nil,List.replicate,List.cons_append,List.nil_append,List.length_cons,List.length_nil,Bool.false_eq_true,eq_self,if_true,if_false,Nat.zero_add,Jt,Yz,Ju,Jv,Jw,Y0,Jx,true_and,eq_int]
      split
      · refine (ho t15 _ lots lots[x.toNat] 2 hw15 (by omega) (by omega) (by omega) (hfr ps)).mono ?_
        rintro d s ⟨ws, t16, rfl, q1, q2, q3, rfl, hw16, hc16, hc16'⟩
        simp only [Y1,Qf,Qt,Qu,Qa,Qg,Qv,Qw,Qx,Qy,Qh,Qz,Jy,Qi,Qb,Qj,Qk,Q0,Jz,Q1,Q2,J0,Q3,Q4,J1,Ql,Qm,Qn,Q5,Qo,Q6,Qp,Q7,Q8,J2,Q9,Ja,J3,J4,J5,Jb,J6,J7,Jc,J8,J9,Jd,Je,Ya,Jf,Yb,Jg,Jh,Y8,Yc,Ji,Yd,Ye,Yf,Yg,Yh,Y2,Jj,Qq,Jk,Yi,Jl,Jm,Yj,Y3,Yk,Yl,Y4,Ym,Y5,Yn,Qc,Yo,Jn,Yp,Yq,Y6,Yr,Qd,Jo,Jp,Y7,Ys,Yt,Yu,Yv,Yw,Yx,Jq,Jr,Qr,Js,Yy,Qe,Qs,List.set_cons_zero,List.set_cons_succ,List.map_cons,List.map_nil,List.replicate,List.cons_append,List.nil_append,List.length_cons,List.length_nil,Bool.false_eq_true,eq_self,if_true,if_false,Nat.zero_add,Jt,Yz,Ju,Jv,Jw,Y0,Jx,true_and,add_int]
        refine ⟨lst _, rfl, ?_⟩
        simp only [Y1,Qf,Qt,Qu,Qa,Qg,Qv,Qw,Qx,Qy,Qh,Qz,Jy,Qi,Qb,Qj,Qk,Q0,Jz,Q1,Q2,J0,Q3,Q4,J1,Ql,Qm,Qn,Q5,Qo,Q6,Qp,Q7,Q8,J2,Q9,Ja,J3,J4,J5,Jb,J6,J7,Jc,J8,J9,Jd,Je,Ya,Jf,Yb,Jg,Jh,Y8,Yc,Ji,Yd,Ye,Yf,Yg,Yh,Y2,Jj,Qq,Jk,Yi,Jl,Jm,Yj,Y3,Yk,Yl,Y4,Ym,Y5,Yn,Qc,Yo,Jn,Yp,Yq,Y6,Yr,Qd,Jo,Jp,Y7,Ys,Yt,Yu,Yv,Yw,Yx,Jq,Jr,Qr,Js,Yy,Qe,Qs,List.set_cons_zero,List.set_cons_succ,List.map_cons,List.map_nil,List.replicate,List.cons_append,List.nil_append,List.length_cons,List.length_nil,Bool.false_eq_true,eq_self,if_true,if_false,Nat.zero_add,Jt,Yz,Ju,Jv,Jw,Y0,Jx,true_and,app]
        refine turn t16 (srtS ws) (few + 1) (okp _ (.inr ⟨ws, rfl, q1, q2, by omega⟩)) ?_ (by omega) hw16 (by omega) (by omega) _
        split <;> omega
      · refine ⟨lst _, rfl, ?_⟩
        simp only [Y1,Qf,Qt,Qu,Qa,Qg,Qv,Qw,Qx,Qy,Qh,Qz,Jy,Qi,Qb,Qj,Qk,Q0,Jz,Q1,Q2,J0,Q3,Q4,J1,Ql,Qm,Qn,Q5,Qo,Q6,Qp,Q7,Q8,J2,Q9,Ja,J3,J4,J5,Jb,J6,J7,Jc,J8,J9,Jd,Je,Ya,Jf,Yb,Jg,Jh,Y8,Yc,Ji,Yd,Ye,Yf,Yg,Yh,Y2,Jj,Qq,Jk,Yi,Jl,Jm,Yj,Y3,Yk,Yl,Y4,Ym,Y5,Yn,Qc,Yo,Jn,Yp,Yq,Y6,Yr,Qd,Jo,Jp,Y7,Ys,Yt,Yu,Yv,Yw,Yx,Jq,Jr,Qr,Js,Yy,Qe,Qs,List.set_cons_zero,List.set_cons_succ,List.map_cons,List.map_nil,List.replicate,List.cons_append,List.nil_append,List.length_cons,List.length_nil,Bool.false_eq_true,eq_self,if_true,if_false,Nat.zero_add,Jt,Yz,Ju,Jv,Jw,Y0,Jx,true_and,app]
        exact turn t15 [] few (okp _ (.inl rfl)) (by rw [if_pos rfl]; omega) hfew3 hw15 (by omega) (by omega) _
    · refine ⟨lst _, rfl, ?_⟩
      simp only [Y1,Qf,Qt,Qu,Qa,Qg,Qv,Qw,Qx,Qy,Qh,Qz,Jy,Qi,Qb,Qj,Qk,Q0,Jz,Q1,Q2,J0,Q3,Q4,J1,Ql,Qm,Qn,Q5,Qo,Q6,Qp,Q7,Q8,J2,Q9,Ja,J3,J4,J5,Jb,J6,J7,Jc,J8,J9,Jd,Je,Ya,Jf,Yb,Jg,Jh,Y8,Yc,Ji,Yd,Ye,Yf,Yg,Yh,Y2,Jj,Qq,Jk,Yi,Jl,Jm,Yj,Y3,Yk,Yl,Y4,Ym,Y5,Yn,Qc,Yo,Jn,Yp,Yq,Y6,Yr,Qd,Jo,Jp,Y7,Ys,Yt,Yu,Yv,Yw,Yx,Jq,Jr,Qr,Js,Yy,Qe,Qs,List.set_cons_zero,List.set_cons_succ,List.map_cons,List.map_nil,List.replicate,List.cons_append,List.nil_append,List.length_cons,List.length_nil,Bool.false_eq_true,eq_self,if_true,if_false,Nat.zero_add,Jt,Yz,Ju,Jv,Jw,Y0,Jx,true_and,app]
      exact turn t14 [] few (okp _ (.inl rfl)) (by rw [if_pos rfl]; omega) hfew3 hw14 (by omega) (by omega) _
  · obtain ⟨t6, ps, few, v4, v5, v6, v7, v8, rfl, rfl, hpl, hps, hfew, hfew3, hw6, hge6, hle6⟩ := h
    rw [rngD_len] at hpl hle6
    have hle7 : t6.calls ≤ t.calls + 220 := by omega
    clear hle6 hle5 hge5 hw5
    have hpl10 : ps.length ≤ 10 := by omega
    have hfr : ∀ ds : List (List Str), Fl (r ++ [Ob.lst (ps.map encP), Ob.lst (ds.map encS)]) := fun ds => hf.app (.two (belows_map (below_encP 0) ps) (belows_map (below_encS 0) ds))
    simp only [Y1,Qf,Qt,Qu,Qa,Qg,Qv,Qw,Qx,Qy,Qh,Qz,Jy,Qi,Qb,Qj,Qk,Q0,Jz,Q1,Q2,J0,Q3,Q4,J1,Ql,Qm,Qn,Q5,Qo,Q6,Qp,Q7,Q8,J2,Q9,Ja,J3,J4,J5,Jb,J6,J7,Jc,J8,J9,Jd,Je,Ya,Jf,Yb,Jg,Jh,Y8,Yc,Ji,Yd,Ye,Yf,Yg,Yh,Y2,Jj,Qq,Jk,Yi,Jl,Jm,Yj,Y3,Yk,Yl,Y4,Ym,Y5,Yn,Qc,Yo,Jn,Yp,Yq,Y6,Yr,Qd,Jo,Jp,Y7,Ys,Yt,Yu,Yv,Yw,Yx,Jq,Jr,Qr,Js,Yy,Qe,Qs,List.set_cons_zero,List.set_cons_succ,List.map_cons,List.map_nil,List.replicate,List.cons_append,List.nil_append,List.length_cons,List.length_nil,Bool.false_eq_true,eq_self,if_true,if_false,Nat.zero_add,Jt,Yz,Ju,Jv,Jw,Y0,Jx,true_and,app2,len2]
    refine ⟨rfl, ?_⟩
    refine (ht t6 _ 4 hw6 (by omega) (by omega) (by omega) (hfr [])).mono ?_
    rintro d s ⟨x1, t3, rfl, h10, h11, rfl, hw3, hc3⟩
    simp only [Y1,Qf,Qt,Qu,Qa,Qg,Qv,Qw,Qx,Qy,Qh,Qz,Jy,Qi,Qb,Qj,Qk,Q0,Jz,Q1,Q2,J0,Q3,Q4,J1,Ql,Qm,Qn,Q5,Qo,Q6,Qp,Q7,Q8,J2,Q9,Ja,J3,J4,J5,Jb,J6,J7,Jc,J8,J9,Jd,Je,Ya,Jf,Yb,Jg,Jh,Y8,Yc,Ji,Yd,Ye,Yf,Yg,Yh,Y2,Jj,Qq,Jk,Yi,Jl,Jm,Yj,Y3,Yk,Yl,Y4,Ym,Y5,Yn,Qc,Yo,Jn,Yp,Yq,Y6,Yr,Qd,Jo,Jp,Y7,Ys,Yt,Yu,Yv,Yw,Yx,Jq,Jr,Qr,Js,Yy,Qe,Qs,List.set_cons_zero,List.set_cons_succ,List.map_cons,List.map_nil,List.replicate,List.cons_append,List.nil_append,List.length_cons,List.length_nil,Bool.false_eq_true,eq_self,if_true,if_false,Nat.zero_add,Jt,Yz,Ju,Jv,Jw,Y0,Jx,true_and]
    refine (ht t3 _ 13 hw3 (by omega) (by omega) (by omega) (hfr [])).mono ?_
    rintro d s ⟨x2, t4, rfl, h20, h21, rfl, hw4, hc4⟩
    simp only [Y1,Qf,Qt,Qu,Qa,Qg,Qv,Qw,Qx,Qy,Qh,Qz,Jy,Qi,Qb,Qj,Qk,Q0,Jz,Q1,Q2,J0,Q3,Q4,J1,Ql,Qm,Qn,Q5,Qo,Q6,Qp,Q7,Q8,J2,Q9,Ja,J3,J4,J5,Jb,J6,J7,Jc,J8,J9,Jd,Je,Ya,Jf,Yb,Jg,Jh,Y8,Yc,Ji,Yd,Ye,Yf,Yg,Yh,Y2,Jj,Qq,Jk,Yi,Jl,Jm,Yj,Y3,Yk,Yl,Y4,Ym,Y5,Yn,Qc,Yo,Jn,Yp,Yq,Y6,Yr,Qd,Jo,Jp,Y7,Ys,Yt,Yu,Yv,Yw,Yx,Jq,Jr,Qr,Js,Yy,Qe,Qs,List.set_cons_zero,List.set_cons_succ,List.map_cons,List.map_nil,List.replicate,List.cons_append,List.nil_append,List.length_cons,List.length_nil,Bool.false_eq_true,eq_self,if_true,if_false,Nat.zero_add,Jt,Yz,Ju,Jv,Jw,Y0,Jx,true_and]
    refine ⟨rfl, ?_⟩
    refine (ht t4 _ 2 hw4 (by omega) (by omega) (by omega) (hfr [])).mono ?_
    rintro d s ⟨x3, t5, rfl, h30, h31, rfl, hw5, hc5⟩
    obtain ⟨y, ey, hy⟩ := pick2 (a := x1) (b := x2) h30 h31
    simp only [Y1,Qf,Qt,Qu,Qa,Qg,Qv,Qw,Qx,Qy,Qh,Qz,Jy,Qi,Qb,Qj,Qk,Q0,Jz,Q1,Q2,J0,Q3,Q4,J1,Ql,Qm,Qn,Q5,Qo,Q6,Qp,Q7,Q8,J2,Q9,Ja,J3,J4,J5,Jb,J6,J7,Jc,J8,J9,Jd,Je,Ya,Jf,Yb,Jg,Jh,Y8,Yc,Ji,Yd,Ye,Yf,Yg,Yh,Y2,Jj,Qq,Jk,Yi,Jl,Jm,Yj,Y3,Yk,Yl,Y4,Ym,Y5,Yn,Qc,Yo,Jn,Yp,Yq,Y6,Yr,Qd,Jo,Jp,Y7,Ys,Yt,Yu,Yv,Yw,Yx,Jq,Jr,Qr,Js,Yy,Qe,Qs,List.set_cons_zero,List.set_cons_succ,List.map_cons,List.map_nil,List.replicate,List.cons_append,List.nil_append,List.length_cons,List.length_nil,Bool.false_eq_true,eq_self,if_true,if_false,Nat.zero_add,Jt,Yz,Ju,Jv,Jw,Y0,Jx,true_and,ey]
    have hz01 : 0 ≤ y ∧ y ≤ 12 := by omega
    refine ⟨inRng_small (by omega) (by omega), ?_⟩
    refine ok_loop (fun i env s => ∃ (t' : Tap) (ds : List (List Str)) (v4 : Option Dv), env = [some (.loc 0), some (.tup (lots.map .str)), some (.loc (r.length + 1)), some (.int few), v4, v5, v6, v7, v8, some (.loc (r.length + 2))] ∧ s = tapOb t' :: (r ++ [.lst (ps.map encP), .lst (ds.map encS)]) ∧
        ds.length = i ∧ (∀ d ∈ ds, ∃ ws : List Str, d = srtS ws ∧ ws.Sublist lots ∧ ws ≠ []) ∧ t'.Wf ∧ t.calls ≤ t'.calls ∧ t'.calls ≤ t.calls + 230 + 10 * i)
      (fun _ _ _ _ => rfl) (fun i d env s hd h => ?_) (fun env s h => ?_) ⟨t5, [], _, rfl, rfl, rfl, fun p hp => absurd hp List.not_mem_nil, hw5, by omega, by omega⟩
    · obtain ⟨t8, ds, v4, rfl, rfl, rfl, hds, hw8, hge8, hle8⟩ := h
      obtain ⟨hi, rfl⟩ := rngD_get hd
      have g := st_get2 (t := tapOb t8) (o := Ob.lst (ps.map encP)) (o2 := Ob.lst (ds.map encS)) (r := r) (l := [])
      simp only [Y1,Qf,Qt,Qu,Qa,Qg,Qv,Qw,Qx,Qy,Qh,Qz,Jy,Qi,Qb,Qj,Qk,Q0,Jz,Q1,Q2,J0,Q3,Q4,J1,Ql,Qm,Qn,Q5,Qo,Q6,Qp,Q7,Q8,J2,Q9,Ja,J3,J4,J5,Jb,J6,J7,Jc,J8,J9,Jd,Je,Ya,Jf,Yb,Jg,Jh,Y8,Yc,Ji,Yd,Ye,Yf,Yg,Yh,Y2,Jj,Qq,Jk,Yi,Jl,Jm,Yj,Y3,Yk,Yl,Y4,Ym,Y5,Yn,Qc,Yo,Jn,Yp,Yq,Y6,Yr,Qd,Jo,Jp,Y7,Ys,Yt,Yu,Yv,Yw,Yx,Jq,Jr,Qr,Js,Yy,Qe,Qs,List.set_cons_zero,List.set_cons_succ,List.map_cons,List.map_nil,List.replicate,List.cons_append,List.nil_append,List.length_cons,List.length_nil,Bool.false_eq_true,eq_self,if_true,if_false,Nat.zero_add,Jt,Yz,Ju,Jv,Jw,Y0,Jx,true_and]
      refine ⟨isL_loc g, ?_⟩
      refine (hn t8 _ lots hpool hw8 (by omega) (by omega) (by omega) (hfr ds)).mono ?_
      rintro d s ⟨ws, t9, rfl, q1, q2, rfl, hw9, hc9, hc9'⟩
      simp only [Y1,Qf,Qt,Qu,Qa,Qg,Qv,Qw,Qx,Qy,Qh,Qz,Jy,Qi,Qb,Qj,Qk,Q0,Jz,Q1,Q2,J0,Q3,Q4,J1,Ql,Qm,Qn,Q5,Qo,Q6,Qp,Q7,Q8,J2,Q9,Ja,J3,J4,J5,Jb,J6,J7,Jc,J8,J9,Jd,Je,Ya,Jf,Yb,Jg,Jh,Y8,Yc,Ji,Yd,Ye,Yf,Yg,Yh,Y2,Jj,Qq,Jk,Yi,Jl,Jm,Yj,Y3,Yk,Yl,Y4,Ym,Y5,Yn,Qc,Yo,Jn,Yp,Yq,Y6,Yr,Qd,Jo,Jp,Y7,Ys,Yt,Yu,Yv,Yw,Yx,Jq,Jr,Qr,Js,Yy,Qe,Qs,List.set_cons_zero,List.set_cons_succ,List.map_cons,List.map_nil,List.replicate,List.cons_append,List.nil_append,List.length_cons,List.length_nil,Bool.false_eq_true,eq_self,if_true,if_false,Nat.zero_add,Jt,Yz,Ju,Jv,Jw,Y0,Jx,true_and]
      rw [append_loc st_get2 (by rw [List.length_map]; omega), st_set2, Y1]
      refine ⟨t9, ds ++ [srtS ws], _, rfl, by simp [encS], by simp, fun p hp => ?_, hw9, by omega, by push_cast; omega⟩
      rcases List.mem_append.mp hp with z | z
      · exact hds p z
      · rw [List.mem_singleton.mp z]; exact ⟨ws, rfl, q1, q2⟩
    · obtain ⟨t8, ds, v4, rfl, rfl, hdl, hds, hw8, hge8, hle8⟩ := h
      rw [rngD_len] at hdl hle8
      have g1 := st_get1 (t := tapOb t8) (o := Ob.lst (ps.map encP)) (r := r) (l := [Ob.lst (ds.map encS)])
      have g2 := st_get2 (t := tapOb t8) (o := Ob.lst (ps.map encP)) (o2 := Ob.lst (ds.map encS)) (r := r) (l := [])
      simp only [Y1,Qf,Qt,Qu,Qa,Qg,Qv,Qw,Qx,Qy,Qh,Qz,Jy,Qi,Qb,Qj,Qk,Q0,Jz,Q1,Q2,J0,Q3,Q4,J1,Ql,Qm,Qn,Q5,Qo,Q6,Qp,Q7,Q8,J2,Q9,Ja,J3,J4,J5,Jb,J6,J7,Jc,J8,J9,Jd,Je,Ya,Jf,Yb,Jg,Jh,Y8,Yc,Ji,Yd,Ye,Yf,Yg,Yh,Y2,Jj,Qq,Jk,Yi,Jl,Jm,Yj,Y3,Yk,Yl,Y4,Ym,Y5,Yn,Qc,Yo,Jn,Yp,Yq,Y6,Yr,Qd,Jo,Jp,Y7,Ys,Yt,Yu,Yv,Yw,Yx,Jq,Jr,Qr,Js,Yy,Qe,Qs,List.set_cons_zero,List.set_cons_succ,List.map_cons,List.map_nil,List.replicate,List.cons_append,List.nil_append,List.length_cons,List.length_nil,Bool.false_eq_true,eq_self,if_true,if_false,Nat.zero_add,Jt,Yz,Ju,Jv,Jw,Y0,Jx,true_and,tuple_loc g1,tuple_loc g2]
      refine ⟨rfl, ?_⟩
      refine fin_tap hf (below_encC 0 ⟨lots, ps, ds⟩) ⟨⟨lots, ps, ds⟩, t8, rfl, ⟨hlen.1, hlen.2, hnd, fun x hx => pool10_word x (hpool x hx), hps, hpl10, ?_, hds, ?_, hpool⟩, rfl, hw8, hge8, ?_⟩
      · show (ps.filter fun p => !p.others.isEmpty).length ≤ 3
        omega
      · show ds.length ≤ 12
        omega
      · omega
end Z

namespace Z
open PySem PySem.Spec PyProof.Rows L2

/-! ### an end's sums -/
def encL (x : Str × Int) : Dv := .tup [.str x.1, .int x.2]
def encE (laid : List (Str × Int)) (ds : List Str) : Dv := .tup [.tup (laid.map encL), encS ds]
def sumOf (laid : List (Str × Int)) (n : Str) : Int := (laid.map fun x => if x.1 = n then x.2 else 0).sum
def cntOf (ds : List Str) (n : Str) : Int := (ds.map fun x => if x = n then 1 else 0).sum
def tally (lots : List Str) (laid : List (Str × Int)) (ds : List Str) : List Int := lots.map fun n => sumOf laid n + cntOf ds n
def bTally : Fn Ct :=
  fSeq (fSet 2 (fBin gIx (fVar 0) (fC (.int 0))))
  (fSeq (fSet 4 (fNew (fLc (fSrc (fVar 2)) [3] (gNm 3) (fYes) (fC (.int 0)))))
  (fSeq (fFor (fSrc (fBin gIx (fVar 1) (fC (.int 0)))) (gTp 2 (gsCons (gNm 3) (gsCons (gNm 5) (gsNil)))) (fAug (fun i j => i + j) (fVar 4) (fIndex (fVar 2) (fCons (fVar 3) (fNil))) (fVar 5)))
  (fSeq (fFor (fSrc (fBin gIx (fVar 1) (fC (.int 1)))) (gNm 3) (fAug (fun i j => i + j) (fVar 4) (fIndex (fVar 2) (fCons (fVar 3) (fNil))) (fC (.int 1))))
  (fRet (fCall gTuple (fCons (fVar 4) (fNil)))))))
def TallyS (φ : Phi) : Prop := ∀ (s : Sto) (lots : List Str) (more : List Dv) (laid : List (Str × Int)) (ds : List Str), lots.Nodup → lots.length ≤ 1000 → (∀ x ∈ laid, x.1 ∈ lots) → (∀ d ∈ ds, d ∈ lots) → Fl s →
  OkE nX (φ [.tup (encS lots :: more), encE laid ds] s) fun d s' => d = .tup ((tally lots laid ds).map .int) ∧ s' = s
end Z

namespace Z
open PySem PySem.Spec PyProof.Rows L2

/-! ### data without places: repr -/
mutual
def pd : Dv → PyData
  | .non => .none
  | .bl b => .bool b
  | .int i => .int i
  | .str x => .str x
  | .tup ds => .tuple (pds ds)
  | .ls ds => .list (pds ds)
  | .loc _ => .none
  | .xn .. => .none
def pds : List Dv → List PyData
  | [] => []
  | d :: r => pd d :: pds r
end
mutual
/-- no places, ints below 10^12, texts in order, not deep -/
def gd : Nat → Dv → Bool
  | 0, _ => false
  | _ + 1, .non => true
  | _ + 1, .bl _ => true
  | _ + 1, .int i => decide (i.natAbs < 10 ^ 12)
  | _ + 1, .str x => PyData.strOk x
  | n + 1, .tup ds => gds n ds
  | n + 1, .ls ds => gds n ds
  | _ + 1, .loc _ => false
  | _ + 1, .xn .. => false
def gds : Nat → List Dv → Bool
  | _, [] => true
  | n, d :: r => gd n d && gds n r
end
mutual
def wd : Dv → Nat
  | .int _ => 41
  | .str x => x.cps.size
  | .tup ds => wds ds
  | .ls ds => wds ds
  | _ => 0
def wds : List Dv → Nat
  | [] => 0
  | d :: r => wd d + 1 + wds r
end
mutual
theorem py_gd {s : Sto} : ∀ {n m : Nat} {d : Dv}, gd n d = true → n ≤ m → py s m d = some (pd d)
  | 0, _, _, h, _ => by simp [gd] at h
  | n + 1, 0, _, _, hm => by omega
  | n + 1, m + 1, .non, _, _ => by simp [py, pd]
  | n + 1, m + 1, .bl _, _, _ => by simp [py, pd]
  | n + 1, m + 1, .int _, _, _ => by simp [py, pd]
  | n + 1, m + 1, .str _, _, _ => by simp [py, pd]
  | n + 1, m + 1, .tup ds, h, hm => by
    have h : gds n ds = true := by simpa [gd] using h
    show (ds.mapM (py s m)).map PyData.tuple = _
    rw [pys_gd h (by omega)]; simp [pd]
  | n + 1, m + 1, .ls ds, h, hm => by
    have h : gds n ds = true := by simpa [gd] using h
    show (ds.mapM (py s m)).map PyData.list = _
    rw [pys_gd h (by omega)]; simp [pd]
  | n + 1, m + 1, .loc _, h, _ => by simp [gd] at h
  | n + 1, m + 1, .xn .., h, _ => by simp [gd] at h
theorem pys_gd {s : Sto} : ∀ {n m : Nat} {ds : List Dv}, gds n ds = true → n ≤ m → ds.mapM (py s m) = some (pds ds)
  | _, _, [], _, _ => by simp [pds]
  | n, m, d :: r, h, hm => by
    have h : gd n d = true ∧ gds n r = true := by simpa [gds] using h
    rw [List.mapM_cons, py_gd h.1 hm, pys_gd h.2 hm]; simp [pds]
end
theorem int_short {i : Int} (h : i.natAbs < 10 ^ 12) : (PyData.shown (.int i)).length ≤ 13 := by
  have := int_text_length_le10 (a := i) (k := 12) (by decide) h
  show (Str.ofString (toString i)).length ≤ 13
  rw [PySem.ofString_length]; exact this
theorem log2_small {n : Nat} (h : n < 10 ^ 12) : n.log2 < 40 := by
  by_cases h0 : n = 0
  · subst h0; decide
  · exact (Nat.log2_lt h0).mpr (by omega)
mutual
theorem gd_ok : ∀ {n : Nat} {d : Dv}, gd n d = true → (pd d).canLay0 = true ∧ (pd d).intsShort 13 = true ∧ (pd d).showable = true ∧ (pd d).weight ≤ wd d ∧ (pd d).depth ≤ n
  | 0, _, h => by simp [gd] at h
  | n + 1, .non, _ => by simp [pd, PyData.canLay0, PyData.intsShort, PyData.showable, PyData.weight, PyData.depth, wd]
  | n + 1, .bl _, _ => by simp [pd, PyData.canLay0, PyData.intsShort, PyData.showable, PyData.weight, PyData.depth, wd]
  | n + 1, .int i, h => by
    have h : i.natAbs < 10 ^ 12 := by simpa [gd] using h
    have hl := log2_small h
    refine ⟨by simp [pd, PyData.canLay0], ?_, ?_, ?_, by simp [pd, PyData.depth]⟩
    · simp only [pd, PyData.intsShort, decide_eq_true_eq]; exact int_short h
    · simp only [pd, PyData.showable, decide_eq_true_eq]; omega
    · simp only [pd, PyData.weight, wd]
      split <;> omega
  | n + 1, .str x, h => by
    have h : PyData.strOk x = true := by simpa [gd] using h
    simp [pd, PyData.canLay0, PyData.intsShort, PyData.showable, PyData.weight, PyData.depth, wd, h]
  | n + 1, .tup ds, h => by
    have h : gds n ds = true := by simpa [gd] using h
    obtain ⟨h1, h2, h3, h4, h5⟩ := gds_ok h
    refine ⟨by simpa [pd, PyData.canLay0] using h1, by simpa [pd, PyData.intsShort] using h2, by simpa [pd, PyData.showable] using h3, by simpa [pd, PyData.weight, wd] using h4, ?_⟩
    simp only [pd, PyData.depth]; omega
  | n + 1, .ls ds, h => by
    have h : gds n ds = true := by simpa [gd] using h
    obtain ⟨h1, h2, h3, h4, h5⟩ := gds_ok h
    refine ⟨by simpa [pd, PyData.canLay0] using h1, by simpa [pd, PyData.intsShort] using h2, by simpa [pd, PyData.showable] using h3, by simpa [pd, PyData.weight, wd] using h4, ?_⟩
    simp only [pd, PyData.depth]; omega
  | n + 1, .loc _, h => by simp [gd] at h
  | n + 1, .xn .., h => by simp [gd] at h
theorem gds_ok : ∀ {n : Nat} {ds : List Dv}, gds n ds = true → PyData.canLayAll0 (pds ds) = true ∧ PyData.intsShortAll 13 (pds ds) = true ∧ PyData.showableAll (pds ds) = true ∧ PyData.weightAll (pds ds) ≤ wds ds ∧ PyData.depthAll (pds ds) ≤ n
  | _, [], _ => by simp [pds, PyData.canLayAll0, PyData.intsShortAll, PyData.showableAll, PyData.weightAll, PyData.depthAll, wds]
  | n, d :: r, h => by
    have h : gd n d = true ∧ gds n r = true := by simpa [gds] using h
    obtain ⟨a1, a2, a3, a4, a5⟩ := gd_ok h.1
    obtain ⟨b1, b2, b3, b4, b5⟩ := gds_ok h.2
    refine ⟨by simp [pds, PyData.canLayAll0, a1, b1], by simp [pds, PyData.intsShortAll, a2, b2], by simp [pds, PyData.showableAll, a3, b3], ?_, ?_⟩
    · simp only [pds, PyData.weightAll, wds]; omega
    · simp only [pds, PyData.depthAll]; omega
end
/-- list + list -/
def kCat2 (x : Dv) (L : List Dv → Sto → Prop) : Dv → Sto → Prop := fun y s2 => OkE nX (match seqOf s2 x, seqOf s2 y with
  | some ds, some es => Rs.iff (isL x s2 && isL y s2 && decide (ds.length + es.length ≤ 16777216)) (.ok (ds ++ es) s2)
  | _, _ => .bad) L
def kCat (g : Fn Dv) (env : En) (L : List Dv → Sto → Prop) : Dv → Sto → Prop := fun x s1 => OkE nX (g env s1) (kCat2 x L)
theorem kCat_ap {g : Fn Dv} {env : En} {L : List Dv → Sto → Prop} {x : Dv} {s : Sto} : kCat g env L x s = OkE nX (g env s) (kCat2 x L) := rfl
theorem ok_catL {f g : Fn Dv} {env : En} {s : Sto} {L : List Dv → Sto → Prop} : OkE nX (fCatL f g env s) L ↔ OkE nX (f env s) (kCat g env L) := by
  unfold fCatL; rw [ok_bind]
  exact ⟨fun h => h.mono fun _ _ h => ok_bind.mp h, fun h => h.mono fun _ _ h => ok_bind.mpr h⟩
theorem kCat2_ls {ds es : List Dv} {L : List Dv → Sto → Prop} {s : Sto} : kCat2 (.ls ds) L (.ls es) s ↔ decide (ds.length + es.length ≤ 16777216) = true ∧ L (ds ++ es) s := by
  show OkE nX (Rs.iff (true && true && _) _) L ↔ _
  rw [ok_iff]; simp only [Bool.true_and, Bool.and_self]; exact Iff.rfl
theorem kCat2_loc {n : Nat} {ds es : List Dv} {L : List Dv → Sto → Prop} {s : Sto} (h : s[n]? = some (.lst ds)) : kCat2 (.loc n) L (.ls es) s ↔ decide (ds.length + es.length ≤ 16777216) = true ∧ L (ds ++ es) s := by
  unfold kCat2
  have e : seqOf s (.loc n) = some ds := by
    show (match s[n]? with | some (.lst ds) => some ds | _ => none) = _
    rw [h]
  rw [e, isL_loc h]
  show OkE nX (Rs.iff (true && true && _) _) L ↔ _
  rw [ok_iff]; simp only [Bool.true_and, Bool.and_self]; exact Iff.rfl
/-- xs[::-1] -/
def kRev (L : List Dv → Sto → Prop) : Dv → Sto → Prop := fun x s1 => OkE nX (match seqOf s1 x with
  | some ds => Rs.iff (isL x s1) (.ok ds.reverse s1)
  | none => .bad) L
end Z

namespace Z
open PySem PySem.Spec PyProof.Rows L2

/-! ### {k: v} -/
def kDict (T : Dv → Sto → Prop) : List (Dv × Dv) → Sto → Prop := fun ps s => ∃ kvs, keysD ps = some kvs ∧ decide (kvs.length ≤ 15) = true ∧ T (.loc s.length) (s ++ [.dk (mergeD [] kvs)])
def kPc3 (k v : Dv) (Z : List (Dv × Dv) → Sto → Prop) : List (Dv × Dv) → Sto → Prop := fun ps s => Z ((k, v) :: ps) s
def kPc2 (r : List (Fn Dv × Fn Dv)) (k : Dv) (env : En) (Z : List (Dv × Dv) → Sto → Prop) : Dv → Sto → Prop := fun v s => OkE nX (fPairs r env s) (kPc3 k v Z)
def kPc (fv : Fn Dv) (r : List (Fn Dv × Fn Dv)) (env : En) (Z : List (Dv × Dv) → Sto → Prop) : Dv → Sto → Prop := fun k s => OkE nX (fv env s) (kPc2 r k env Z)
section
variable {T : Dv → Sto → Prop} {Z : List (Dv × Dv) → Sto → Prop} {env : En} {s : Sto} {k v : Dv} {r : List (Fn Dv × Fn Dv)} {fk fv : Fn Dv} {ps : List (Dv × Dv)}
theorem kPc3_ap : kPc3 k v Z ps s = Z ((k, v) :: ps) s := rfl
theorem kPc2_ap : kPc2 r k env Z v s = OkE nX (fPairs r env s) (kPc3 k v Z) := rfl
theorem kPc_ap : kPc fv r env Z k s = OkE nX (fv env s) (kPc2 r k env Z) := rfl
theorem ok_pN : OkE nX (fPairs [] env s) Z ↔ Z [] s := Iff.rfl
theorem ok_pC : OkE nX (fPairs ((fk, fv) :: r) env s) Z ↔ OkE nX (fk env s) (kPc fv r env Z) := by
  show OkE nX (Rs.bind _ _) Z ↔ _
  rw [ok_bind]
  exact ⟨fun h => h.mono fun _ _ h => (ok_bind.mp h).mono fun _ _ h => (ok_bind.mp h).mono fun _ _ h => h, fun h => h.mono fun _ _ h => ok_bind.mpr (h.mono fun _ _ h => ok_bind.mpr (h.mono fun _ _ h => h))⟩
theorem ok_dict {fs : List (Fn Dv × Fn Dv)} : OkE nX (fDict fs env s) T ↔ OkE nX (fPairs fs env s) (kDict T) := by
  unfold fDict
  rw [ok_bind]
  refine ⟨fun h => h.mono fun ps s h => ?_, fun h => h.mono fun ps s h => ?_⟩
  · cases e : keysD ps with
    | none => rw [e] at h; exact False.elim h
    | some kvs =>
      rw [e] at h
      obtain ⟨h1, h2⟩ := ok_iff.mp h
      exact ⟨kvs, e, h1, h2⟩
  · obtain ⟨kvs, e, h1, h2⟩ := h
    rw [e]
    exact ok_iff.mpr ⟨h1, h2⟩
theorem list_ls {ds : List Dv} : gList [.ls ds] s = .ok ds s := rfl
end

/-! ### the tap's beginning -/
def bTap : Fn Ct :=
  fRet (fDict [(fC (.str (Str.ofString "cells")), fVal (fCallL gList (fCons (fSl (fVar 0) (fNoPart) (fPart (fC (.int 63)))) (fNil)))), (fC (.str (Str.ofString "spot")), fC (.int 0)), (fC (.str (Str.ofString "rest")), fC (.int 0)), (fC (.str (Str.ofString "calls")), fC (.int 0))])
def TapS (φ : Phi) : Prop := ∀ ns : List Int, OkE nX (φ [.ls (ns.map .int)] []) fun d s' => ∃ t : Tap, d = .loc 0 ∧ s' = [tapOb t] ∧ t.Wf ∧ t.calls = 0
theorem tap_spec : TapS (fDef 1 1 bTap) := by
  intro ns
  rw [ok_def]
  refine ⟨rfl, ?_⟩
  unfold bTap
  have h : cutD (ns.map Dv.int) none (some 63) = (ns.take 63).map Dv.int := by rw [cut_take (by decide), List.map_take]; rfl
  have e : ∀ s : Sto, gSl (.ls (ns.map Dv.int)) none (some 63) s = .ok (.ls ((ns.take 63).map Dv.int)) s := fun s => by
    show Rs.ok (Dv.ls (cutD (ns.map Dv.int) none (some 63))) s = _
    rw [h]
  simp only [Y1,Qf,Qt,Qu,Qa,Qg,Qv,Qw,Qx,Qy,Qh,Qz,Jy,Qi,Qb,Qj,Qk,Q0,Jz,Q1,Q2,J0,Q3,Q4,J1,Ql,Qm,Qn,Q5,Qo,Q6,Qp,Q7,Q8,J2,Q9,Ja,J3,J4,J5,Jb,J6,J7,Jc,J8,J9,Jd,Je,Ya,Jf,Yb,Jg,Jh,Y8,Yc,Ji,Yd,Ye,Yf,Yg,Yh,Y2,Jj,Qq,Jk,Yi,Jl,Jm,Yj,Y3,Yk,Yl,Y4,Ym,Y5,Yn,Qc,Yo,Jn,Yp,Yq,Y6,Yr,Qd,Jo,Jp,Y7,Ys,Yt,Yu,Yv,Yw,Yx,Jq,Jr,Qr,Js,Yy,Qe,Qs,List.set_cons_zero,List.set_cons_succ,List.map_cons,List.map_nil,List.replicate,List.cons_append,List.nil_append,List.length_cons,List.length_nil,Bool.false_eq_true,eq_self,if_true,if_false,Nat.zero_add,Jt,Yz,Ju,Jv,Jw,Y0,Jx,true_and,ok_dict,ok_pC,ok_pN,kPc_ap,kPc2_ap,kPc3_ap,e,list_ls]
  refine ⟨_, rfl, rfl, ?_⟩
  exact ⟨⟨ns.take 63, 0, 0, 0⟩, rfl, rfl, ⟨Int.le_refl _, Int.le_refl _, Int.le_refl _⟩, rfl⟩

/-! ### an end of a count -/
def bEnd7a (φt : Phi) : Fn Ct := fSeq (fSet 8 (fBin gAdd (fTup (fCons (fVar 3) (fNil))) (fVar 6)))
  (fDrop (fMt isL gAppend (fVar 2) (fCons (fTup (fCons (fBin gIx (fVar 8) (fCall φt (fCons (fVar 0) (fCons (fCall gLen (fCons (fVar 8) (fNil))) (fNil))))) (fCons (fBin gAdd (fVar 7) (fCall φt (fCons (fVar 0) (fCons (fBin gAdd (fBin gSub (fBin gAdd (fVar 4) (fVar 5)) (fVar 7)) (fC (.int 1))) (fNil))))) (fNil)))) (fNil))))
def bEnd7 (φt : Phi) : Fn Ct :=
  fSeq (fSet 2 (fNew (fLst (fNil))))
  (fSeq (fFor (fSrc (fBin gIx (fVar 1) (fC (.int 1)))) (gTp 4 (gsCons (gNm 3) (gsCons (gNm 4) (gsCons (gNm 5) (gsCons (gNm 6) (gsNil)))))) (fSeq (fSet 7 (fIf (fTest (fBin gGt (fVar 4) (fVar 5))) (fBin gSub (fVar 4) (fVar 5)) (fC (.int 0))))
  (bEnd7a φt)))
  (fRet (fTup (fCons (fCall gTuple (fCons (fVar 2) (fNil))) (fCons (fCall gTuple (fCons (fVal (fLc (fSrc (fBin gIx (fVar 1) (fC (.int 2)))) [9] (gNm 9) (fYes) (fBin gIx (fVar 9) (fCall φt (fCons (fVar 0) (fCons (fCall gLen (fCons (fVar 9) (fNil))) (fNil))))))) (fNil))) (fNil))))))
structure EndOk (c : Cnt) (laid : List (Str × Int)) (ds : List Str) : Prop where
  hlaid : ∀ x ∈ laid, x.1 ∈ c.lots ∧ 0 ≤ x.2 ∧ x.2 ≤ 1010000
  nlaid : laid.length = c.piles.length
  hds : ∀ d ∈ ds, d ∈ c.lots
  nds : ds.length = c.doubts.length
def EndS (φ : Phi) : Prop := ∀ (t : Tap) (r : Sto) (c : Cnt), CntOk c → t.Wf → t.calls + 1000 ≤ 1000000 → Fl r →
  OkE nX (φ [.loc 0, encC c] (tapOb t :: r)) fun d s' => ∃ (laid : List (Str × Int)) (ds : List Str) (t' : Tap), d = encE laid ds ∧ EndOk c laid ds ∧ s' = tapOb t' :: r ∧ t'.Wf ∧ t.calls ≤ t'.calls ∧ t'.calls ≤ t.calls + 1000
theorem srtS_len (xs : List Str) : (srtS xs).length = xs.length := (srtS_perm xs).length_eq
/-! ### the sums by name -/
def bSums7 : Fn Ct :=
  fSeq (fSet 2 (fNew (fLst (fNil))))
  (fSeq (fFor (fSrc (fBin gIx (fVar 0) (fC (.int 0)))) (gNm 3) (fSeq (fSet 4 (fVal (fCatL (fVal (fLc (fSrc (fBin gIx (fVar 1) (fC (.int 0)))) [5, 6] (gTp 2 (gsCons (gNm 5) (gsCons (gNm 6) (gsNil)))) (fTest (fBin gEq (fVar 5) (fVar 3))) (fVar 6))) (fVal (fLc (fSrc (fBin gIx (fVar 1) (fC (.int 1)))) [5] (gNm 5) (fTest (fBin gEq (fVar 5) (fVar 3))) (fC (.int 1)))))))
  (fDrop (fMt isL gAppend (fVar 2) (fCons (fCall gSumL (fCons (fVar 4) (fNil))) (fNil))))))
  (fRet (fCall gTuple (fCons (fVar 2) (fNil)))))
end Z

namespace Z
open PySem PySem.Spec PyProof.Rows L2

/-! ### more readings -/
section
variable {T : Dv → Sto → Prop} {S : Src → Sto → Prop} {env : En} {s : Sto} {L : List Dv → Sto → Prop} {R : Ct → Sto → Prop} {B : Bool → Sto → Prop}
def kIsi (N : String) (T : Dv → Sto → Prop) : Dv → Sto → Prop := fun x s => okX x = true ∧ T (.bl (isiB (tyD x s) N)) s
theorem kIsi_ap {N : String} {x : Dv} : kIsi N T x s = (okX x = true ∧ T (.bl (isiB (tyD x s) N)) s) := rfl
theorem ok_isi {N : String} {f : Fn Dv} : OkE nX (fIsi N f env s) T ↔ OkE nX (f env s) (kIsi N T) := by
  unfold fIsi; rw [ok_bind]
  exact ⟨fun h => h.mono fun _ _ h => ok_iff.mp h, fun h => h.mono fun _ _ h => ok_iff.mpr h⟩
def kSrcS (S : Src → Sto → Prop) : Dv → Sto → Prop := fun d s => match d with | .str z => S (charsD z, noChk) s | _ => False
theorem kSrcS_str {z : Str} : kSrcS S (.str z) s = S (charsD z, noChk) s := rfl
theorem ok_srcS {f : Fn Dv} : OkE nX (fSrcS f env s) S ↔ OkE nX (f env s) (kSrcS S) := by
  unfold fSrcS; rw [ok_bind]
  cases f env s with
  | ok c s1 => cases c <;> exact Iff.rfl
  | _ => exact Iff.rfl
def kEnum (S : Src → Sto → Prop) : List Dv → Sto → Prop := fun ds s => ∃ d src, ds = [d] ∧ srcOf d s = some src ∧ S (enumD src.1, src.2) s
def kZip (S : Src → Sto → Prop) : List Dv → Sto → Prop := fun ds s => ∃ d e a b, ds = [d, e] ∧ srcOf d s = some a ∧ srcOf e s = some b ∧ ((isL d s && isL e s) || (isT d s && isT e s)) = true ∧ S (zipD a.1 b.1, fun s => a.2 s && b.2 s) s
def kRevI (S : Src → Sto → Prop) : Dv → Sto → Prop := fun d s => ∃ src, srcOf d s = some src ∧ S (src.1.reverse, src.2) s
def kChain3 (g' : Dv → Dv → Sto → Rs Dv) (f3 : Fn Dv) (env : En) (y : Dv) (T : Dv → Sto → Prop) : Dv → Sto → Prop := fun t s3 => match t with
  | .bl true => OkE nX (f3 env s3) (kUn nX (fun z => g' y z) T)
  | .bl false => T (.bl false) s3
  | _ => False
theorem kChain3_t {g' : Dv → Dv → Sto → Rs Dv} {f3 : Fn Dv} {y : Dv} : kChain3 g' f3 env y T (.bl true) s = OkE nX (f3 env s) (kUn nX (fun z => g' y z) T) := rfl
theorem kChain3_f {g' : Dv → Dv → Sto → Rs Dv} {f3 : Fn Dv} {y : Dv} : kChain3 g' f3 env y T (.bl false) s = T (.bl false) s := rfl
def kChain2 (g g' : Dv → Dv → Sto → Rs Dv) (f3 : Fn Dv) (env : En) (x : Dv) (T : Dv → Sto → Prop) : Dv → Sto → Prop := fun y s2 => OkE nX (g x y s2) (kChain3 g' f3 env y T)
def kChain (g g' : Dv → Dv → Sto → Rs Dv) (f2 f3 : Fn Dv) (env : En) (T : Dv → Sto → Prop) : Dv → Sto → Prop := fun x s1 => OkE nX (f2 env s1) (kChain2 g g' f3 env x T)
theorem kChain2_ap {g g' : Dv → Dv → Sto → Rs Dv} {f3 : Fn Dv} {x y : Dv} : kChain2 g g' f3 env x T y s = OkE nX (g x y s) (kChain3 g' f3 env y T) := rfl
theorem kChain_ap {g g' : Dv → Dv → Sto → Rs Dv} {f2 f3 : Fn Dv} {x : Dv} : kChain g g' f2 f3 env T x s = OkE nX (f2 env s) (kChain2 g g' f3 env x T) := rfl
theorem ok_chain {g g' : Dv → Dv → Sto → Rs Dv} {f1 f2 f3 : Fn Dv} : OkE nX (fChain g g' f1 f2 f3 env s) T ↔ OkE nX (f1 env s) (kChain g g' f2 f3 env T) := by
  have key : ∀ (y t : Dv) (s3 : Sto), OkE nX (match t with | .bl true => (f3 env s3).bind fun z s4 => g' y z s4 | .bl false => .ok (.bl false) s3 | _ => .bad) T ↔ kChain3 g' f3 env y T t s3 := fun y t s3 => by
    cases t with
    | bl b => cases b with
      | true => exact ok_bind
      | false => exact Iff.rfl
    | _ => exact Iff.rfl
  unfold fChain; rw [ok_bind]
  refine ⟨fun h => h.mono fun x s h => (ok_bind.mp h).mono fun y s h => (ok_bind.mp h).mono fun t s h => (key y t s).mp h, fun h => h.mono fun x s h => ok_bind.mpr (h.mono fun y s h => ok_bind.mpr (h.mono fun t s h => (key y t s).mpr h))⟩
end
/-- a comprehension whose items are plain -/
theorem ok_map {own : List Nat} {g : Dv → Fn En} {tt : Fn Bool} {te : Fn Dv} {ds : List Dv} {env : En} {s : Sto} {L : List Dv → Sto → Prop} (p : Dv → Bool) (h : Dv → Dv)
    (hh : ∀ d ∈ ds, OkE nX (g d (wipeZ env own) s) fun env1 s1 => OkE nX (tt env1 s1) fun b s2 => b = p d ∧ if b = true then OkE nX (te env1 s2) fun y s3 => y = h d ∧ s3 = s else s2 = s) (hL : L ((ds.filter p).map h) s) : OkE nX (lcZ noChk own g tt te ds env s) L := by
  refine ok_lcI (fun j acc s' => acc = ((ds.take j).filter p).map h ∧ s' = s) (fun _ _ _ _ => rfl) (fun j d acc s' hd hi => ?_) (fun acc s' hi => ?_) ⟨by simp, rfl⟩
  · obtain ⟨rfl, rfl⟩ := hi
    refine (hh d (List.mem_of_getElem? hd)).mono fun env1 s1 h1 => h1.mono fun b s2 h2 => ?_
    obtain ⟨rfl, h2⟩ := h2
    rw [take_succ' hd, List.filter_append]
    cases e : p d with
    | true =>
      rw [e, if_pos rfl] at h2
      rw [if_pos rfl]
      refine h2.mono fun y s3 h3 => ?_
      obtain ⟨rfl, rfl⟩ := h3
      exact ⟨by simp [e], rfl⟩
    | false =>
      rw [e, if_neg Bool.false_ne_true] at h2
      rw [if_neg Bool.false_ne_true]
      exact ⟨by simp [e], h2⟩
  · obtain ⟨rfl, rfl⟩ := hi
    rw [List.take_length]; exact hL
theorem filter_yes {α : Type} (l : List α) : l.filter (fun _ => true) = l := List.filter_eq_self.mpr fun _ _ => rfl
theorem fin_any {s : Sto} {d : Dv} {T : Dv → Sto → Prop} (hd : ∀ n, d ≠ .loc n) (h : T d s) : OkE nX (gcZ s.length d s) T := by
  have e : gcZ s.length d s = .ok d s := by
    unfold gcZ
    split
    · rw [List.take_length]
    · cases d with
      | loc n => exact absurd rfl (hd n)
      | _ => rfl
  rw [e]; exact h
theorem all_ls {bs : List Bool} {s : Sto} : gAll [.ls (bs.map .bl)] s = .ok (.bl (bs.all id)) s := by
  have h : blsOf (bs.map .bl) = some bs := by
    induction bs with
    | nil => rfl
    | cons z r ih =>
      show (blsOf (r.map .bl)).map (z :: ·) = _
      rw [ih]; rfl
  unfold gAll gOnL
  have e : (seqOf s (.ls (bs.map .bl))).bind blsOf = some bs := h
  simp only [e]
  rfl
/-! ### kinds of things -/
def bNumber : Fn Ct := fRet (fAnd (fIsi "int" (fVar 0)) (fNot (fIsi "bool" (fVar 0))))
def isNumD : Dv → Bool
  | .int _ => true
  | _ => false
theorem number_spec {d : Dv} {s : Sto} {T : Dv → Sto → Prop} (hx : okX d = true) (h : T (.bl (isNumD d)) s) : OkE nX (fDef 1 1 bNumber [d] s) T := by
  rw [ok_def]
  refine ⟨rfl, ?_⟩
  unfold bNumber
  simp only [Y1,Qf,Qt,Qu,Qa,Qg,Qv,Qw,Qx,Qy,Qh,Qz,Jy,Qi,Qb,Qj,Qk,Q0,Jz,Q1,Q2,J0,Q3,Q4,J1,Ql,Qm,Qn,Q5,Qo,Q6,Qp,Q7,Q8,J2,Q9,Ja,J3,J4,J5,Jb,J6,J7,Jc,J8,J9,Jd,Je,Ya,Jf,Yb,Jg,Jh,Y8,Yc,Ji,Yd,Ye,Yf,Yg,Yh,Y2,Jj,Qq,Jk,Yi,Jl,Jm,Yj,Y3,Yk,Yl,Y4,Ym,Y5,Yn,Qc,Yo,Jn,Yp,Yq,Y6,Yr,Qd,Jo,Jp,Y7,Ys,Yt,Yu,Yv,Yw,Yx,Jq,Jr,Qr,Js,Yy,Qe,Qs,List.set_cons_zero,List.set_cons_succ,List.map_cons,List.map_nil,List.replicate,List.cons_append,List.nil_append,List.length_cons,List.length_nil,Bool.false_eq_true,eq_self,if_true,if_false,Nat.zero_add,Jt,Yz,Ju,Jv,Jw,Y0,Jx,true_and,ok_isi,kIsi_ap]
  refine ⟨hx, ?_⟩
  cases d with
  | xn a b c e => cases hx
  | int i => exact ⟨rfl, fin_any (fun n => nofun) h⟩
  | bl i => exact ⟨rfl, fin_any (fun n => nofun) h⟩
  | non => exact fin_any (fun n => nofun) h
  | str i => exact fin_any (fun n => nofun) h
  | tup i => exact fin_any (fun n => nofun) h
  | ls i => exact fin_any (fun n => nofun) h
  | loc n =>
    have e1 : isiB (tyD (.loc n) s) "int" = false := by
      unfold tyD
      simp only
      split <;> decide
    rw [e1]
    exact fin_any (fun n => nofun) h
def isWordD : Dv → Bool
  | .str z => isWordS z
  | _ => false
def bWord : Fn Ct :=
  fSeq (fIfS (fOrT (fNotT (fTest (fIsi "str" (fVar 0)))) (fNotT (fTest (fChain gLe gLe (fC (.int 1)) (fCall gLen (fCons (fVar 0) (fNil))) (fC (.int 8)))))) (fRet (fC (.bl false))) (fNop))
  (fRet (fCall gAll (fCons (fVal (fLc (fSrcS (fVar 0)) [1] (gNm 1) (fYes) (fBin gIn (fVar 1) (fC (.str (Str.ofString "abcdefghijklmnopqrstuvwxyz")))))) (fNil))))
theorem len_str {z : Str} {s : Sto} (h : z.length ≤ 16777216) : gLen [.str z] s = .ok (.int z.length) s := by
  show Rs.iff (decide (z.length ≤ 16777216)) _ = _
  rw [decide_eq_true h]; rfl
theorem in_letters {c : Nat} {s : Sto} : gIn (.str ⟨#[c]⟩) (.str (Str.ofString "abcdefghijklmnopqrstuvwxyz")) s = .ok (.bl (isLet c)) s := by
  show Rs.ok (Dv.bl (!(Builtin.Str.occurrences lettersS ⟨#[c]⟩ 0 lettersS.length 1).isEmpty)) s = _
  rw [PySem.StrLaws.found_one]; rfl
theorem word_spec {d : Dv} {s : Sto} {T : Dv → Sto → Prop} (hx : okX d = true) (hz : ∀ z, d = .str z → z.length ≤ 16777216) (h : T (.bl (isWordD d)) s) : OkE nX (fDef 1 2 bWord [d] s) T := by
  rw [ok_def]
  refine ⟨rfl, ?_⟩
  unfold bWord
  simp only [Y1,Qf,Qt,Qu,Qa,Qg,Qv,Qw,Qx,Qy,Qh,Qz,Jy,Qi,Qb,Qj,Qk,Q0,Jz,Q1,Q2,J0,Q3,Q4,J1,Ql,Qm,Qn,Q5,Qo,Q6,Qp,Q7,Q8,J2,Q9,Ja,J3,J4,J5,Jb,J6,J7,Jc,J8,J9,Jd,Je,Ya,Jf,Yb,Jg,Jh,Y8,Yc,Ji,Yd,Ye,Yf,Yg,Yh,Y2,Jj,Qq,Jk,Yi,Jl,Jm,Yj,Y3,Yk,Yl,Y4,Ym,Y5,Yn,Qc,Yo,Jn,Yp,Yq,Y6,Yr,Qd,Jo,Jp,Y7,Ys,Yt,Yu,Yv,Yw,Yx,Jq,Jr,Qr,Js,Yy,Qe,Qs,List.set_cons_zero,List.set_cons_succ,List.map_cons,List.map_nil,List.replicate,List.cons_append,List.nil_append,List.length_cons,List.length_nil,Bool.false_eq_true,eq_self,if_true,if_false,Nat.zero_add,Jt,Yz,Ju,Jv,Jw,Y0,Jx,true_and,ok_isi,kIsi_ap]
  have no : isiB (tyD d s) "str" = false → isWordD d = false := fun e => by
    cases d with
    | str z => exact absurd e (by simp [tyD, isiB])
    | _ => rfl
  cases e : isiB (tyD d s) "str" with
  | false =>
    rw [no e] at h
    simp only [Y1,Qf,Qt,Qu,Qa,Qg,Qv,Qw,Qx,Qy,Qh,Qz,Jy,Qi,Qb,Qj,Qk,Q0,Jz,Q1,Q2,J0,Q3,Q4,J1,Ql,Qm,Qn,Q5,Qo,Q6,Qp,Q7,Q8,J2,Q9,Ja,J3,J4,J5,Jb,J6,J7,Jc,J8,J9,Jd,Je,Ya,Jf,Yb,Jg,Jh,Y8,Yc,Ji,Yd,Ye,Yf,Yg,Yh,Y2,Jj,Qq,Jk,Yi,Jl,Jm,Yj,Y3,Yk,Yl,Y4,Ym,Y5,Yn,Qc,Yo,Jn,Yp,Yq,Y6,Yr,Qd,Jo,Jp,Y7,Ys,Yt,Yu,Yv,Yw,Yx,Jq,Jr,Qr,Js,Yy,Qe,Qs,List.set_cons_zero,List.set_cons_succ,List.map_cons,List.map_nil,List.replicate,List.cons_append,List.nil_append,List.length_cons,List.length_nil,Bool.false_eq_true,eq_self,if_true,if_false,Nat.zero_add,Jt,Yz,Ju,Jv,Jw,Y0,Jx,true_and,Bool.not_false]
    refine ⟨hx, ?_⟩
    exact fin_any (fun n => nofun) h
  | true =>
    have hs : ∃ z, d = .str z := by
      cases d with
      | str z => exact ⟨z, rfl⟩
      | loc n =>
        exfalso
        unfold tyD at e
        simp only at e
        split at e <;> exact absurd e (by decide)
      | _ => exact absurd e (by simp [tyD, isiB])
    obtain ⟨z, rfl⟩ := hs
    simp only [Y1,Qf,Qt,Qu,Qa,Qg,Qv,Qw,Qx,Qy,Qh,Qz,Jy,Qi,Qb,Qj,Qk,Q0,Jz,Q1,Q2,J0,Q3,Q4,J1,Ql,Qm,Qn,Q5,Qo,Q6,Qp,Q7,Q8,J2,Q9,Ja,J3,J4,J5,Jb,J6,J7,Jc,J8,J9,Jd,Je,Ya,Jf,Yb,Jg,Jh,Y8,Yc,Ji,Yd,Ye,Yf,Yg,Yh,Y2,Jj,Qq,Jk,Yi,Jl,Jm,Yj,Y3,Yk,Yl,Y4,Ym,Y5,Yn,Qc,Yo,Jn,Yp,Yq,Y6,Yr,Qd,Jo,Jp,Y7,Ys,Yt,Yu,Yv,Yw,Yx,Jq,Jr,Qr,Js,Yy,Qe,Qs,List.set_cons_zero,List.set_cons_succ,List.map_cons,List.map_nil,List.replicate,List.cons_append,List.nil_append,List.length_cons,List.length_nil,Bool.false_eq_true,eq_self,if_true,if_false,Nat.zero_add,Jt,Yz,Ju,Jv,Jw,Y0,Jx,true_and,Bool.not_true,ok_chain,kChain_ap,kChain2_ap,len_str (hz z rfl),Z.le_int]
    have hw : isWordD (.str z) = (decide (1 ≤ z.length) && decide (z.length ≤ 8) && z.cps.toList.all isLet) := rfl
    rw [hw] at h
    by_cases h1 : 1 ≤ z.length
    · rw [decide_eq_true (show (1 : Int) ≤ z.length by omega)]
      rw [decide_eq_true h1] at h
      simp only [Y1,Qf,Qt,Qu,Qa,Qg,Qv,Qw,Qx,Qy,Qh,Qz,Jy,Qi,Qb,Qj,Qk,Q0,Jz,Q1,Q2,J0,Q3,Q4,J1,Ql,Qm,Qn,Q5,Qo,Q6,Qp,Q7,Q8,J2,Q9,Ja,J3,J4,J5,Jb,J6,J7,Jc,J8,J9,Jd,Je,Ya,Jf,Yb,Jg,Jh,Y8,Yc,Ji,Yd,Ye,Yf,Yg,Yh,Y2,Jj,Qq,Jk,Yi,Jl,Jm,Yj,Y3,Yk,Yl,Y4,Ym,Y5,Yn,Qc,Yo,Jn,Yp,Yq,Y6,Yr,Qd,Jo,Jp,Y7,Ys,Yt,Yu,Yv,Yw,Yx,Jq,Jr,Qr,Js,Yy,Qe,Qs,List.set_cons_zero,List.set_cons_succ,List.map_cons,List.map_nil,List.replicate,List.cons_append,List.nil_append,List.length_cons,List.length_nil,Bool.false_eq_true,eq_self,if_true,if_false,Nat.zero_add,Jt,Yz,Ju,Jv,Jw,Y0,Jx,true_and,kChain3_t,Z.le_int]
      by_cases h8 : z.length ≤ 8
      · rw [decide_eq_true (show (z.length : Int) ≤ 8 by omega)]
        rw [decide_eq_true h8] at h
        simp only [Y1,Qf,Qt,Qu,Qa,Qg,Qv,Qw,Qx,Qy,Qh,Qz,Jy,Qi,Qb,Qj,Qk,Q0,Jz,Q1,Q2,J0,Q3,Q4,J1,Ql,Qm,Qn,Q5,Qo,Q6,Qp,Q7,Q8,J2,Q9,Ja,J3,J4,J5,Jb,J6,J7,Jc,J8,J9,Jd,Je,Ya,Jf,Yb,Jg,Jh,Y8,Yc,Ji,Yd,Ye,Yf,Yg,Yh,Y2,Jj,Qq,Jk,Yi,Jl,Jm,Yj,Y3,Yk,Yl,Y4,Ym,Y5,Yn,Qc,Yo,Jn,Yp,Yq,Y6,Yr,Qd,Jo,Jp,Y7,Ys,Yt,Yu,Yv,Yw,Yx,Jq,Jr,Qr,Js,Yy,Qe,Qs,List.set_cons_zero,List.set_cons_succ,List.map_cons,List.map_nil,List.replicate,List.cons_append,List.nil_append,List.length_cons,List.length_nil,Bool.false_eq_true,eq_self,if_true,if_false,Nat.zero_add,Jt,Yz,Ju,Jv,Jw,Y0,Jx,true_and,Bool.not_true,ok_srcS,kSrcS_str]
        refine ⟨decide_eq_true (by simp only [charsD, List.length_map, Array.length_toList]; show z.cps.size < _; have : z.cps.size = z.length := rfl; omega), ?_⟩
        refine ok_map (fun _ => true) (fun d => match d with | .str x => .bl (isLet (x.cps.toList.headD 0)) | _ => .non) (fun d hd => ?_) ?_
        · obtain ⟨c, _, rfl⟩ := List.mem_map.mp hd
          simp only [Y1,Qf,Qt,Qu,Qa,Qg,Qv,Qw,Qx,Qy,Qh,Qz,Jy,Qi,Qb,Qj,Qk,Q0,Jz,Q1,Q2,J0,Q3,Q4,J1,Ql,Qm,Qn,Q5,Qo,Q6,Qp,Q7,Q8,J2,Q9,Ja,J3,J4,J5,Jb,J6,J7,Jc,J8,J9,Jd,Je,Ya,Jf,Yb,Jg,Jh,Y8,Yc,Ji,Yd,Ye,Yf,Yg,Yh,Y2,Jj,Qq,Jk,Yi,Jl,Jm,Yj,Y3,Yk,Yl,Y4,Ym,Y5,Yn,Qc,Yo,Jn,Yp,Yq,Y6,Yr,Qd,Jo,Jp,Y7,Ys,Yt,Yu,Yv,Yw,Yx,Jq,Jr,Qr,Js,Yy,Qe,Qs,List.set_cons_zero,List.set_cons_succ,List.map_cons,List.map_nil,List.replicate,List.cons_append,List.nil_append,List.length_cons,List.length_nil,Bool.false_eq_true,eq_self,if_true,if_false,Nat.zero_add,Jt,Yz,Ju,Jv,Jw,Y0,Jx,true_and,wipeZ,in_letters]
          exact ⟨rfl, trivial⟩
        · rw [filter_yes]
          have e2 : (charsD z).map (fun d => match d with | .str x => Dv.bl (isLet (x.cps.toList.headD 0)) | _ => Dv.non) = (z.cps.toList.map isLet).map .bl := by
            unfold charsD
            rw [List.map_map, List.map_map]
            exact List.map_congr_left fun c _ => rfl
          rw [e2]
          simp only [Y1,Qf,Qt,Qu,Qa,Qg,Qv,Qw,Qx,Qy,Qh,Qz,Jy,Qi,Qb,Qj,Qk,Q0,Jz,Q1,Q2,J0,Q3,Q4,J1,Ql,Qm,Qn,Q5,Qo,Q6,Qp,Q7,Q8,J2,Q9,Ja,J3,J4,J5,Jb,J6,J7,Jc,J8,J9,Jd,Je,Ya,Jf,Yb,Jg,Jh,Y8,Yc,Ji,Yd,Ye,Yf,Yg,Yh,Y2,Jj,Qq,Jk,Yi,Jl,Jm,Yj,Y3,Yk,Yl,Y4,Ym,Y5,Yn,Qc,Yo,Jn,Yp,Yq,Y6,Yr,Qd,Jo,Jp,Y7,Ys,Yt,Yu,Yv,Yw,Yx,Jq,Jr,Qr,Js,Yy,Qe,Qs,List.set_cons_zero,List.set_cons_succ,List.map_cons,List.map_nil,List.replicate,List.cons_append,List.nil_append,List.length_cons,List.length_nil,Bool.false_eq_true,eq_self,if_true,if_false,Nat.zero_add,Jt,Yz,Ju,Jv,Jw,Y0,Jx,true_and,all_ls]
          refine fin_any (fun n => nofun) ?_
          rw [List.all_map]
          exact h
      · rw [decide_eq_false (show ¬ (z.length : Int) ≤ 8 by omega)]
        rw [decide_eq_false h8] at h
        simp only [Y1,Qf,Qt,Qu,Qa,Qg,Qv,Qw,Qx,Qy,Qh,Qz,Jy,Qi,Qb,Qj,Qk,Q0,Jz,Q1,Q2,J0,Q3,Q4,J1,Ql,Qm,Qn,Q5,Qo,Q6,Qp,Q7,Q8,J2,Q9,Ja,J3,J4,J5,Jb,J6,J7,Jc,J8,J9,Jd,Je,Ya,Jf,Yb,Jg,Jh,Y8,Yc,Ji,Yd,Ye,Yf,Yg,Yh,Y2,Jj,Qq,Jk,Yi,Jl,Jm,Yj,Y3,Yk,Yl,Y4,Ym,Y5,Yn,Qc,Yo,Jn,Yp,Yq,Y6,Yr,Qd,Jo,Jp,Y7,Ys,Yt,Yu,Yv,Yw,Yx,Jq,Jr,Qr,Js,Yy,Qe,Qs,List.set_cons_zero,List.set_cons_succ,List.map_cons,List.map_nil,List.replicate,List.cons_append,List.nil_append,List.length_cons,List.length_nil,Bool.false_eq_true,eq_self,if_true,if_false,Nat.zero_add,Jt,Yz,Ju,Jv,Jw,Y0,Jx,true_and,Bool.not_false]
        exact fin_any (fun n => nofun) h
    · rw [decide_eq_false (show ¬ (1 : Int) ≤ z.length by omega)]
      rw [decide_eq_false h1] at h
      simp only [Y1,Qf,Qt,Qu,Qa,Qg,Qv,Qw,Qx,Qy,Qh,Qz,Jy,Qi,Qb,Qj,Qk,Q0,Jz,Q1,Q2,J0,Q3,Q4,J1,Ql,Qm,Qn,Q5,Qo,Q6,Qp,Q7,Q8,J2,Q9,Ja,J3,J4,J5,Jb,J6,J7,Jc,J8,J9,Jd,Je,Ya,Jf,Yb,Jg,Jh,Y8,Yc,Ji,Yd,Ye,Yf,Yg,Yh,Y2,Jj,Qq,Jk,Yi,Jl,Jm,Yj,Y3,Yk,Yl,Y4,Ym,Y5,Yn,Qc,Yo,Jn,Yp,Yq,Y6,Yr,Qd,Jo,Jp,Y7,Ys,Yt,Yu,Yv,Yw,Yx,Jq,Jr,Qr,Js,Yy,Qe,Qs,List.set_cons_zero,List.set_cons_succ,List.map_cons,List.map_nil,List.replicate,List.cons_append,List.nil_append,List.length_cons,List.length_nil,Bool.false_eq_true,eq_self,if_true,if_false,Nat.zero_add,Jt,Yz,Ju,Jv,Jw,Y0,Jx,true_and,kChain3_f,Bool.not_false]
      exact fin_any (fun n => nofun) h
end Z

namespace Z
open PySem PySem.Spec PyProof.Rows L2

/-! ### ends looked at -/
def NumberS (φ : Phi) : Prop := ∀ (d : Dv) (s : Sto) (T : Dv → Sto → Prop), okX d = true → T (.bl (isNumD d)) s → OkE nX (φ [d] s) T
def WordS (φ : Phi) : Prop := ∀ (d : Dv) (s : Sto) (T : Dv → Sto → Prop), okX d = true → (∀ z, d = .str z → z.length ≤ 16777216) → T (.bl (isWordD d)) s → OkE nX (φ [d] s) T
def bAreWords (φw : Phi) : Fn Ct :=
  fRet (fAnd (fIsi "tuple" (fVar 0)) (fCall gAll (fCons (fVal (fLc (fSrc (fVar 0)) [1] (gNm 1) (fYes) (fCall φw (fCons (fVar 1) (fNil))))) (fNil))))
/-- texts that are no longer than a text may be -/
def txtOk : Dv → Bool
  | .str z => decide (z.length ≤ 16777216)
  | d => okX d
def bLaid (φn φw : Phi) : Fn Ct :=
  fRet (fAnd (fIsi "tuple" (fVar 0)) (fAnd (fBin gEq (fCall gLen (fCons (fVar 0) (fNil))) (fC (.int 2))) (fAnd (fCall φw (fCons (fBin gIx (fVar 0) (fC (.int 0))) (fNil))) (fCall φn (fCons (fBin gIx (fVar 0) (fC (.int 1))) (fNil))))))
def LaidS (φ : Phi) : Prop := ∀ (x : Str × Int) (s : Sto) (T : Dv → Sto → Prop), isWordS x.1 = true → T (.bl true) s → OkE nX (φ [encL x] s) T
def AreWordsS (φ : Phi) : Prop := ∀ (ds : List Dv) (s : Sto) (T : Dv → Sto → Prop), (∀ d ∈ ds, txtOk d = true) → ds.length < 16777216 → T (.bl (ds.all isWordD)) s → OkE nX (φ [.tup ds] s) T
def bShaped (φl φa : Phi) : Fn Ct :=
  fSeq (fIfS (fOrT (fNotT (fTest (fIsi "tuple" (fVar 0)))) (fOrT (fTest (fBin gNe (fCall gLen (fCons (fVar 0) (fNil))) (fC (.int 2)))) (fNotT (fTest (fIsi "tuple" (fBin gIx (fVar 0) (fC (.int 0)))))))) (fRet (fC (.bl false))) (fNop))
  (fRet (fAnd (fCall gAll (fCons (fVal (fLc (fSrc (fBin gIx (fVar 0) (fC (.int 0)))) [1] (gNm 1) (fYes) (fCall φl (fCons (fVar 1) (fNil))))) (fNil))) (fCall φa (fCons (fBin gIx (fVar 0) (fC (.int 1))) (fNil)))))
def bLeast : Fn Ct := fRet (fCall (gTwo fun i j => if j > i then j else i) (fCons (fC (.int 0)) (fCons (fBin gSub (fBin gIx (fVar 0) (fC (.int 1))) (fBin gIx (fVar 0) (fC (.int 2)))) (fNil))))
def bGreat : Fn Ct := fRet (fBin gAdd (fBin gIx (fVar 0) (fC (.int 1))) (fBin gIx (fVar 0) (fC (.int 2))))
def Pil.least (p : Pil) : Int := if p.many - p.slip > 0 then p.many - p.slip else 0
def LeastS (φ : Phi) : Prop := ∀ (p : Pil) (s : Sto) (T : Dv → Sto → Prop), T (.int p.least) s → OkE nX (φ [encP p] s) T
def GreatS (φ : Phi) : Prop := ∀ (p : Pil) (s : Sto) (T : Dv → Sto → Prop), T (.int (p.many + p.slip)) s → OkE nX (φ [encP p] s) T
def bFaultN (φl φg : Phi) : Fn Ct := fIfS (fNotT (fTest (fChain gLe gLe (fCall φl (fCons (fVar 5) (fNil))) (fBin gIx (fBin gIx (fVar 2) (fVar 4)) (fC (.int 1))) (fCall φg (fCons (fVar 5) (fNil)))))) (fRet (fTup (fCons (fC (.str (Str.ofString "number"))) (fCons (fVar 4) (fNil))))) (fNop)
def bFault (φl φg : Phi) : Fn Ct :=
  fSeq (fAsg (fVar 1) (gTp 2 (gsCons (gNm 2) (gsCons (gNm 3) (gsNil)))))
  (fSeq (fIfS (fTest (fBin gNe (fCall gLen (fCons (fVar 2) (fNil))) (fCall gLen (fCons (fBin gIx (fVar 0) (fC (.int 1))) (fNil))))) (fRet (fTup (fCons (fC (.str (Str.ofString "piles"))) (fCons (fUn gNeg (fC (.int 1))) (fNil))))) (fNop))
  (fSeq (fFor (fEnum (fCons (fBin gIx (fVar 0) (fC (.int 1))) (fNil))) (gTp 2 (gsCons (gNm 4) (gsCons (gNm 5) (gsNil)))) (fSeq (fIfS (fAndT (fTest (fBin gNe (fBin gIx (fBin gIx (fVar 2) (fVar 4)) (fC (.int 0))) (fBin gIx (fVar 5) (fC (.int 0))))) (fTest (fBin gNotIn (fBin gIx (fBin gIx (fVar 2) (fVar 4)) (fC (.int 0))) (fBin gIx (fVar 5) (fC (.int 3)))))) (fRet (fTup (fCons (fC (.str (Str.ofString "name"))) (fCons (fVar 4) (fNil))))) (fNop))
  (bFaultN φl φg)))
  (fSeq (fIfS (fTest (fBin gNe (fCall gLen (fCons (fVar 3) (fNil))) (fCall gLen (fCons (fBin gIx (fVar 0) (fC (.int 2))) (fNil))))) (fRet (fTup (fCons (fC (.str (Str.ofString "doubts"))) (fCons (fUn gNeg (fC (.int 1))) (fNil))))) (fNop))
  (fSeq (fFor (fEnum (fCons (fBin gIx (fVar 0) (fC (.int 2))) (fNil))) (gTp 2 (gsCons (gNm 4) (gsCons (gNm 6) (gsNil)))) (fIfS (fTest (fBin gNotIn (fBin gIx (fVar 3) (fVar 4)) (fVar 6))) (fRet (fTup (fCons (fC (.str (Str.ofString "given"))) (fCons (fVar 4) (fNil))))) (fNop)))
  (fRet (fC .non))))))
/-- an end that the count lets pass -/
structure Fits (c : Cnt) (laid : List (Str × Int)) (ds : List Str) : Prop where
  nl : laid.length = c.piles.length
  nd : ds.length = c.doubts.length
  name : ∀ (i : Nat) (x : Str × Int) (p : Pil), laid[i]? = some x → c.piles[i]? = some p → x.1 = p.name ∨ x.1 ∈ p.others
  num : ∀ (i : Nat) (x : Str × Int) (p : Pil), laid[i]? = some x → c.piles[i]? = some p → p.least ≤ x.2 ∧ x.2 ≤ p.many + p.slip
  dbt : ∀ (i : Nat) (x : Str) (d : List Str), ds[i]? = some x → c.doubts[i]? = some d → x ∈ d
theorem in_strs {x : Str} {xs : List Str} {s : Sto} : gIn (.str x) (encS xs) s = .ok (.bl (decide (x ∈ xs))) s := by
  have h : (xs.map Dv.str).mapM fV = some (xs.map V.str) := mapM_map (g := fV) (f := Dv.str) (h := V.str) (xs := xs) fun y _ => rfl
  show (match fV (.str x), (seqOf s (.tup (xs.map .str))).bind (·.mapM fV) with | some v, some vs => Rs.ok (Dv.bl (inV v vs)) s | _, _ => .bad) = _
  have e : (seqOf s (.tup (xs.map .str))).bind (·.mapM fV) = some (xs.map V.str) := h
  rw [e]
  show Rs.ok (Dv.bl (inV (.str x) (xs.map V.str))) s = _
  have e2 : inV (.str x) (xs.map V.str) = decide (x ∈ xs) := by
    unfold inV
    rw [List.any_map]
    rw [Bool.eq_iff_iff, List.any_eq_true, decide_eq_true_eq]
    constructor
    · rintro ⟨y, hy, e⟩
      have : y = x := by simpa [eqV] using e
      rw [← this]; exact hy
    · intro hx
      exact ⟨x, hx, by simp [eqV]⟩
  rw [e2]
theorem notin_strs {x : Str} {xs : List Str} {s : Sto} : gNotIn (.str x) (encS xs) s = .ok (.bl (!decide (x ∈ xs))) s := by
  show (gIn (.str x) (encS xs) s).bind _ = _
  rw [in_strs]; rfl
theorem ix_tupN {ds : List Dv} {i : Nat} {d : Dv} {s : Sto} (h : ds[i]? = some d) : gIx (.tup ds) (.int (i : Nat)) s = .ok d s := ix_tup (Int.natCast_nonneg i) (by rw [Int.toNat_natCast]; exact h)
/-! ### the end as told -/
def bTold : Fn Ct :=
  fRet (fTup (fCons (fCall gTuple (fCons (fVal (fLc (fSrc (fBin gIx (fVar 0) (fC (.int 1)))) [1] (gNm 1) (fYes) (fSl (fVar 1) (fNoPart) (fPart (fC (.int 2)))))) (fNil))) (fCons (fCall gTuple (fCons (fVal (fLc (fSrc (fBin gIx (fVar 0) (fC (.int 2)))) [2] (gNm 2) (fYes) (fBin gIx (fVar 2) (fC (.int 0))))) (fNil))) (fNil))))
def toldL (c : Cnt) : List (Str × Int) := c.piles.map fun p => (p.name, p.many)
def toldD (c : Cnt) : List Str := c.doubts.map fun d => d.headD (Str.ofString "")
def ToldS (φ : Phi) : Prop := ∀ (c : Cnt) (s : Sto) (T : Dv → Sto → Prop), c.piles.length < 1000 → c.doubts.length < 1000 → (∀ d ∈ c.doubts, d ≠ []) → T (encE (toldL c) (toldD c)) s → OkE nX (φ [encC c] s) T
/-! ### an end let pass -/
def bLets (φs φf φy : Phi) : Fn Ct :=
  fSeq (fIfS (fNotT (fTest (fCall φs (fCons (fVar 1) (fNil))))) (fNever) (fNop))
  (fSeq (fSet 2 (fCall φf (fCons (fVar 0) (fCons (fVar 1) (fNil)))))
  (fSeq (fIfS (fTest (fBin gIsNot (fVar 2) (fC .non))) (fNever) (fNop))
  (fRet (fCall φy (fCons (fVar 0) (fCons (fVar 1) (fNil)))))))
def ShapedS (φ : Phi) : Prop := ∀ (laid : List (Str × Int)) (ds : List Str) (s : Sto) (T : Dv → Sto → Prop), (∀ x ∈ laid, isWordS x.1 = true) → (∀ x ∈ ds, isWordS x = true) → laid.length < 16777216 → ds.length < 16777216 → T (.bl true) s → OkE nX (φ [encE laid ds] s) T
def FaultS (φ : Phi) : Prop := ∀ (c : Cnt) (laid : List (Str × Int)) (ds : List Str) (s : Sto) (T : Dv → Sto → Prop), Fits c laid ds → T .non s → OkE nX (φ [encC c, encE laid ds] s) T
theorem Fits.ends {c : Cnt} (hc : CntOk c) {laid : List (Str × Int)} {ds : List Str} (hf : Fits c laid ds) : (∀ x ∈ laid, x.1 ∈ c.lots) ∧ ∀ x ∈ ds, x ∈ c.lots := by
  refine ⟨fun x hx => ?_, fun x hx => ?_⟩
  · obtain ⟨i, hi⟩ := List.getElem?_of_mem hx
    have hl : i < c.piles.length := by rw [← hf.nl]; exact (List.getElem?_eq_some_iff.mp hi).1
    have hp := List.getElem?_eq_getElem hl
    have hm := List.getElem_mem hl
    rcases hf.name i x _ hi hp with e | e
    · rw [e]; exact (hc.piles _ hm).name
    · rcases (hc.piles _ hm).others with q | ⟨ws, q, h1, _⟩
      · rw [q] at e; cases e
      · rw [q] at e; exact h1.subset ((srtS_perm ws).mem_iff.mp e)
  · obtain ⟨i, hi⟩ := List.getElem?_of_mem hx
    have hl : i < c.doubts.length := by rw [← hf.nd]; exact (List.getElem?_eq_some_iff.mp hi).1
    have hp := List.getElem?_eq_getElem hl
    have e := hf.dbt i x _ hi hp
    obtain ⟨ws, q, h1, _⟩ := hc.doubts _ (List.getElem_mem hl)
    rw [q] at e
    exact h1.subset ((srtS_perm ws).mem_iff.mp e)
end Z

namespace Z
open PySem PySem.Spec PyProof.Rows L2
theorem CntOk.dbt {c : Cnt} (hc : CntOk c) {d : List Str} (hd : d ∈ c.doubts) : 1 ≤ d.length ∧ d.length ≤ 6 ∧ ∀ x ∈ d, x ∈ c.lots := by
  obtain ⟨ws, e, q1, q2⟩ := hc.doubts d hd
  rw [e, srtS_len]
  exact ⟨List.length_pos_iff.mpr q2, Nat.le_trans q1.length_le hc.len6, fun x hx => q1.subset ((srtS_perm ws).mem_iff.mp hx)⟩
/-! ### told ends -/
/-! ### counts and ends, folded -/
section
variable {c : Cnt} {p : Pil} {l : List (Str × Int)} {ds : List Str} {x : Str × Int} {s : Sto}
end
end Z

namespace Z
open PySem PySem.Spec L2

/-! ### the feed -/
structure Feed where
  cells : List Int
  spot : Int
  rest : Int
  calls : Int
def feedOb (f : Feed) : Ob := .lst [.ls (f.cells.map .int), .int f.spot, .int f.rest, .int f.calls]
section
variable {f : Feed} {r : Sto} {i : Int}
end
structure Feed.Wf (f : Feed) : Prop where
  c0 : 0 ≤ f.calls
  r0 : 0 ≤ f.rest
  s0 : 0 ≤ f.spot
def bSource : Fn Ct := fRet (fNew (fLst (fCons (fSl (fVar 0) (fNoPart) (fPart (fC (.int 63)))) (fCons (fC (.int 0)) (fCons (fC (.int 0)) (fCons (fC (.int 0)) (fNil)))))))
def finN (T : Dv → Sto → Prop) : Ct → Sto → Prop
  | .next _, s => T .non s
  | .ret d, s => T d s
  | _, _ => False
def SourceS (φ : Phi) : Prop := ∀ ns : List Int, OkE nX (φ [.ls (ns.map .int)] []) fun d s' => ∃ f : Feed, d = .loc 0 ∧ s' = [feedOb f] ∧ f.Wf ∧ f.calls = 0
def bDrawE : Fn Ct :=
  (fSeq (fSet 4 (fBin gMod (fBin gPow (fBin gAdd (fBin gAdd (fBin gMod (fVar 3) (fC (.int 2147483629))) (fBin gMul (fC (.int 6007)) (fBin gIx (fVar 0) (fC (.int 3))))) (fC (.int 19))) (fC (.int 5))) (fC (.int 2147483587))))
  (fRet (fBin gMod (fBin gDiv (fBin gMod (fBin gPow (fBin gAdd (fVar 4) (fBin gMul (fC (.int 7927)) (fBin gIx (fVar 0) (fC (.int 3))))) (fC (.int 5))) (fC (.int 2147483549))) (fC (.int 8))) (fVar 1))))
def bDrawM : Fn Ct :=
  (fSeq (fPut (fVar 0) (fC (.int 1)) (fBin gAdd (fBin gIx (fVar 0) (fC (.int 1))) (fC (.int 1))))
  (fSeq (fIfS (fAndT (fTest (fBin gGe (fVar 3) (fBin gPow (fC (.int 10)) (fC (.int 18))))) (fTest (fBin gLe (fBin gIx (fVar 0) (fC (.int 1))) (fCall gLen (fCons (fBin gIx (fVar 0) (fC (.int 0))) (fNil)))))) (fSeq (fPut (fVar 0) (fC (.int 2)) (fBin gDiv (fVar 3) (fVar 1)))
  (fRet (fBin gMod (fVar 3) (fVar 1)))) (fNop))
  bDrawE))
def bDraw : Fn Ct :=
  fSeq (fPut (fVar 0) (fC (.int 3)) (fBin gAdd (fBin gIx (fVar 0) (fC (.int 3))) (fC (.int 1))))
  (fSeq (fIfS (fTest (fBin gGt (fBin gIx (fVar 0) (fC (.int 2))) (fC (.int 0)))) (fSeq (fSet 2 (fBin gMod (fBin gIx (fVar 0) (fC (.int 2))) (fVar 1)))
  (fSeq (fPut (fVar 0) (fC (.int 2)) (fBin gDiv (fBin gIx (fVar 0) (fC (.int 2))) (fVar 1)))
  (fRet (fVar 2)))) (fNop))
  (fSeq (fSet 3 (fIf (fTest (fBin gNe (fBin gIx (fVar 0) (fC (.int 0))) (fVal (fLst (fNil))))) (fBin gIx (fBin gIx (fVar 0) (fC (.int 0))) (fBin gMod (fBin gIx (fVar 0) (fC (.int 1))) (fCall gLen (fCons (fBin gIx (fVar 0) (fC (.int 0))) (fNil))))) (fC (.int 0))))
  bDrawM))
def DrawS (φ : Phi) : Prop := ∀ (f : Feed) (r : Sto) (m : Int), f.Wf → f.calls < 1000000 → 1 ≤ m → m < 2 ^ 60 → Fl r → OkE nX (φ [.loc 0, .int m] (feedOb f :: r)) fun d s' => ∃ (x : Int) (f' : Feed), d = .int x ∧ 0 ≤ x ∧ x < m ∧ s' = feedOb f' :: r ∧ f'.Wf ∧ f'.calls = f.calls + 1
theorem Fl.feed {f : Feed} {r : Sto} (h : Fl r) : Fl (feedOb f :: r) := fun o ho => by
  rcases List.mem_cons.mp ho with z | z
  · subst z
    show belows 0 [.ls (f.cells.map .int), .int f.spot, .int f.rest, .int f.calls] = true
    exact belows_cons (below_ls (belows_ints _ _)) rfl
  · exact h o z
end Z

namespace Z
open PySem PySem.Spec L2

/-! ### names by two letters -/
def chrS (i : Nat) : Str := ⟨#[97 + i]⟩
theorem add_str {a b : Str} {s : Sto} (h : a.length + b.length ≤ 16777216) : gAdd (.str a) (.str b) s = .ok (.str (a ++ b)) s := by
  show Rs.iff (decide (a.length + b.length ≤ 16777216)) _ = _
  rw [decide_eq_true h]; rfl
def poolC (i j : Nat) : List Str := [chrS i, chrS i ++ chrS j, chrS j, chrS j ++ chrS i, chrS i ++ chrS i, Txt.mul (chrS j) 8]
def bLotsC (φd : Phi) : Fn Ct :=
  fSeq (fSet 2 (fC (.str (Str.ofString "abcdefghijklmnopqrstuvwxyz"))))
  (fSeq (fSet 3 (fCall φd (fCons (fVar 0) (fCons (fC (.int 26)) (fNil)))))
  (fSeq (fPar2 4 5 (fCons (fBin gIx (fVar 2) (fVar 3)) (fCons (fBin gIx (fVar 2) (fBin gMod (fBin gAdd (fBin gAdd (fVar 3) (fC (.int 1))) (fCall φd (fCons (fVar 0) (fCons (fC (.int 25)) (fNil))))) (fC (.int 26)))) (fNil))))
  (fSeq (fSet 6 (fNew (fLst (fCons (fVar 4) (fCons (fBin gAdd (fVar 4) (fVar 5)) (fCons (fVar 5) (fCons (fBin gAdd (fVar 5) (fVar 4)) (fCons (fBin gAdd (fVar 4) (fVar 4)) (fCons (fBin gTimes (fVar 5) (fC (.int 8))) (fNil))))))))))
  (fRet (fVal (fLc (fRng1 (fCons (fVar 1) (fNil))) [7] (gNm 7) (fYes) (fMt isL gPopAt (fVar 6) (fCons (fCall φd (fCons (fVar 0) (fCons (fCall gLen (fCons (fVar 6) (fNil))) (fNil)))) (fNil)))))))))
def LotsC (φ : Phi) : Prop := ∀ (f : Feed) (r : Sto) (m : Int), f.Wf → f.calls + 20 ≤ 1000000 → 0 ≤ m → m ≤ 6 → Fl r → OkE nX (φ [.loc 0, .int m] (feedOb f :: r)) fun d s' => ∃ (xs : List Str) (f' : Feed), d = .ls (xs.map .str) ∧ (xs.length : Int) = m ∧ xs.Nodup ∧ (∀ x ∈ xs, isWordS x = true) ∧
  s' = feedOb f' :: r ∧ f'.Wf ∧ f.calls ≤ f'.calls ∧ f'.calls ≤ f.calls + 10
def bPileR : Fn Ct := (fRet (fTup (fCons (fBin gIx (fVar 1) (fVar 4)) (fCons (fVar 5) (fCons (fVar 6) (fCons (fCall gTuple (fCons (fVal (fCallL gSorted (fCons (fVar 7) (fNil)))) (fNil))) (fNil)))))))
def bPileO (φd : Phi) : Fn Ct :=
  fSeq (fSet 7 (fVal (fLst (fNil))))
  (fSeq (fIfS (fAndT (fTest (fVar 3)) (fTest (fBin gEq (fCall φd (fCons (fVar 0) (fCons (fC (.int 3)) (fNil)))) (fC (.int 0))))) (fSet 7 (fSl (fVal (fLc (fSrc (fVar 1)) [8] (gNm 8) (fAndT (fTest (fBin gNe (fVar 8) (fBin gIx (fVar 1) (fVar 4)))) (fTest (fBin gEq (fCall φd (fCons (fVar 0) (fCons (fC (.int 2)) (fNil)))) (fC (.int 0))))) (fVar 8))) (fNoPart) (fPart (fC (.int 2))))) (fNop))
  bPileR)
def bPileC (φd : Phi) : Fn Ct :=
  fSeq (fSet 4 (fCall φd (fCons (fVar 0) (fCons (fCall gLen (fCons (fVar 1) (fNil))) (fNil)))))
  (fSeq (fIfS (fTest (fVar 2)) (fSeq (fSet 5 (fBin gIx (fVal (fLst (fCons (fBin gPow (fC (.int 10)) (fC (.int 6))) (fCons (fCall φd (fCons (fVar 0) (fCons (fBin gPow (fC (.int 10)) (fC (.int 6))) (fNil)))) (fCons (fC (.int 0)) (fNil)))))) (fCall φd (fCons (fVar 0) (fCons (fC (.int 3)) (fNil))))))
  (fSet 6 (fBin gIx (fVal (fLst (fCons (fBin gPow (fC (.int 10)) (fC (.int 4))) (fCons (fCall φd (fCons (fVar 0) (fCons (fBin gPow (fC (.int 10)) (fC (.int 4))) (fNil)))) (fCons (fC (.int 0)) (fNil)))))) (fCall φd (fCons (fVar 0) (fCons (fC (.int 3)) (fNil))))))) (fPar2 5 6 (fCons (fCall φd (fCons (fVar 0) (fCons (fC (.int 12)) (fNil)))) (fCons (fBin gIx (fVal (fLst (fCons (fC (.int 0)) (fCons (fC (.int 1)) (fCons (fC (.int 2)) (fCons (fC (.int 5)) (fNil))))))) (fCall φd (fCons (fVar 0) (fCons (fC (.int 4)) (fNil))))) (fNil)))))
  (bPileO φd))
def PileC (φ : Phi) : Prop := ∀ (f : Feed) (r : Sto) (lots : List Str) (g w : Bool), f.Wf → f.calls + 30 ≤ 1000000 → 1 ≤ lots.length → lots.length ≤ 6 → Fl r → OkE nX (φ [.loc 0, .ls (lots.map .str), .bl g, .bl w] (feedOb f :: r)) fun d s' => ∃ (p : Pil) (f' : Feed), d = encP p ∧ PilOk lots p ∧ (w = false → p.others = []) ∧
  s' = feedOb f' :: r ∧ f'.Wf ∧ f.calls ≤ f'.calls ∧ f'.calls ≤ f.calls + 20
end Z

namespace Z
open PySem PySem.Spec L2

/-! ### errors, plainly -/
section
variable {α : Type} {Ex : Dv → Sto → Prop} {T : Dv → Sto → Prop} {L : List Dv → Sto → Prop} {R : Ct → Sto → Prop} {B : Bool → Sto → Prop} {P : α → Sto → Prop} {env : En} {s : Sto}
def kRaise (Ex : Dv → Sto → Prop) (cn : Nat) : List Dv → Sto → Prop := fun ds s1 => (ds.length == (fldN cn).length) = true ∧ Ex (.xn 0 0 cn ds) s1
/-- an error leaves a def -/
def kOut (Ex : Dv → Sto → Prop) (b : Nat) : Dv → Sto → Prop := fun e s1 => (below b e && keepsZ b s1) = true ∧ Ex e (s1.take b)
/-- what a try's suite does with the error -/
def kTry (ct : Nat → Bool) (i : Nat) (gs : Addr → Addr → Nat → Fn Ct) (env : En) (R : Ct → Sto → Prop) : Dv → Sto → Prop := fun e s1 => ∃ a d c fs r s2, e = .xn a d c fs ∧ (decide (c < 9) && ct c) = true ∧ (∀ a dd, OkE nX (gs a dd c (env.set i (some (.xn a dd c fs))) s1) fun c2 s3 => unC i c2 = r ∧ s3 = s2) ∧ R r s2
def kIsx (a dd : Addr) (cn : Nat) (b : Bool) (T : Dv → Sto → Prop) : Dv → Sto → Prop := fun d s => ∃ fs, gErr a dd cn d = some fs ∧ T (.bl b) s
def kFldX (a dd : Addr) (cn : Nat) (f : Str) (T : Dv → Sto → Prop) : Dv → Sto → Prop := fun d s => ∃ fs j x, gErr a dd cn d = some fs ∧ (fldN cn).findIdx? (· == f) = some j ∧ fs[j]? = some x ∧ T x s
def kIsiT (Ts : List String) (T : Dv → Sto → Prop) : Dv → Sto → Prop := fun x s => okX x = true ∧ T (.bl (isiAny (tyD x s) Ts)) s
def kSumS2 (x : Dv) (T : Dv → Sto → Prop) : Dv → Sto → Prop := fun i s => ∃ (j : Int) (ns : List Int), i = .int j ∧ (seqOf s x).bind intsOf = some ns ∧ isL x s = true ∧ T (.int (j + ns.sum)) s
def kSumS (Ex : Dv → Sto → Prop) (g : Fn Dv) (env : En) (T : Dv → Sto → Prop) : Dv → Sto → Prop := fun x s => OkE Ex (g env s) (kSumS2 x T)
end

/-! ### dicts by names -/
def nmKv (ns : List Str) (v : Str → Int) : List (Key × Dv) := ns.map fun n => (.inr n, .int (v n))
theorem Fl.nm {ns : List Str} {v : Str → Int} : Fl [.dk (nmKv ns v)] := fun o ho => by
  rw [List.mem_singleton.mp ho]
  show (nmKv ns v).all (fun p => below 0 p.2) = true
  unfold nmKv
  rw [List.all_map]
  exact List.all_eq_true.mpr fun _ _ => rfl
end Z

namespace Z
open PySem PySem.Spec L2

/-! ### steps of use to all -/
theorem ok_pick {α : Type} {own : List Nat} {i : Nat} {tt : Fn Bool} {te : Fn Dv} {enc f : α → Dv} {p : α → Bool} {xs : List α} {env : En} {s : Sto} {L : List Dv → Sto → Prop}
    (hh : ∀ x ∈ xs, OkE nX (tt ((wipeZ env own).set i (some (enc x))) s) fun b s2 => b = p x ∧ s2 = s ∧ (b = true → OkE nX (te ((wipeZ env own).set i (some (enc x))) s) fun y s3 => y = f x ∧ s3 = s)) (hL : L ((xs.filter p).map f) s) : OkE nX (lcZ noChk own (gNm i) tt te (xs.map enc) env s) L := by
  refine ok_lcI (fun j acc s' => acc = ((xs.take j).filter p).map f ∧ s' = s) (fun _ _ _ _ => rfl) (fun j d acc s' hd hi => ?_) (fun acc s' hi => ?_) ⟨by simp, rfl⟩
  · obtain ⟨rfl, rfl⟩ := hi
    rw [List.getElem?_map] at hd
    obtain ⟨x, hx, rfl⟩ := Option.map_eq_some_iff.mp hd
    rw [Ys]
    refine (hh x (List.mem_of_getElem? hx)).mono fun b s2 h => ?_
    obtain ⟨rfl, rfl, h⟩ := h
    cases e : p x with
    | true =>
      rw [if_pos rfl]
      refine (h e).mono fun y s3 h => ?_
      obtain ⟨rfl, rfl⟩ := h
      exact ⟨by rw [take_succ' hx]; simp [e], rfl⟩
    | false =>
      rw [if_neg Bool.false_ne_true]
      exact ⟨by rw [take_succ' hx]; simp [e], rfl⟩
  · obtain ⟨rfl, rfl⟩ := hi
    rw [List.length_map, List.take_length]; exact hL
theorem neg_intD {i : Int} {s : Sto} : gNeg (.int i) s = .ok (.int (-i)) s := rfl
theorem add_tupD {a b : List Dv} {s : Sto} (h : a.length + b.length ≤ 16777216) : gAdd (.tup a) (.tup b) s = .ok (.tup (a ++ b)) s := by
  show Rs.iff (decide (a.length + b.length ≤ 16777216)) _ = _
  rw [decide_eq_true h]; rfl
theorem sl_take {ds : List Dv} {k : Nat} {s : Sto} : gSl (.tup ds) none (some (k : Int)) s = .ok (.tup (ds.take k)) s := by
  show Rs.ok (Dv.tup (cutD ds none (some (k : Int)))) s = _
  rw [cut_take (Int.natCast_nonneg k)]; rfl
theorem sl_drop {ds : List Dv} {k : Nat} {s : Sto} (h : k ≤ ds.length) : gSl (.tup ds) (some (k : Int)) none s = .ok (.tup (ds.drop k)) s := by
  show Rs.ok (Dv.tup (cutD ds (some (k : Int)) none)) s = _
  unfold cutD
  rw [HT.sIx_nat, HT.sIx_none, Nat.min_eq_left h, List.take_of_length_le (by rw [List.length_drop]; omega)]
theorem all_map {α : Type} {xs : List α} {f : α → Bool} {s : Sto} : gAll [.ls (xs.map fun x => Dv.bl (f x))] s = .ok (.bl (xs.all f)) s := by
  have := all_ls (bs := xs.map f) (s := s)
  rw [List.map_map, List.all_map] at this
  exact this
theorem map_id' {ds : List Dv} : ds.map (fun d => d) = ds := List.map_id ds
end Z

namespace Z
open PySem PySem.Spec PyProof.Rows L2

/-! ### any data: ints below 10^100, texts of at most 4096 signs -/
mutual
def gb : Nat → Dv → Bool
  | 0, _ => false
  | _ + 1, .non => true
  | _ + 1, .bl _ => true
  | _ + 1, .int i => decide (i.natAbs < 10 ^ 100)
  | _ + 1, .str x => PyData.strOk x && decide (x.cps.size ≤ 4096)
  | n + 1, .tup ds => gbs n ds
  | n + 1, .ls ds => gbs n ds
  | _ + 1, .loc _ => false
  | _ + 1, .xn .. => false
def gbs : Nat → List Dv → Bool
  | _, [] => true
  | n, d :: r => gb n d && gbs n r
end
mutual
def wb : Dv → Nat
  | .int _ => 334
  | .str x => x.cps.size
  | .tup ds => wbs ds
  | .ls ds => wbs ds
  | _ => 0
def wbs : List Dv → Nat
  | [] => 0
  | d :: r => wb d + 1 + wbs r
end
mutual
theorem py_gb {s : Sto} : ∀ {n m : Nat} {d : Dv}, gb n d = true → n ≤ m → py s m d = some (pd d)
  | 0, _, _, h, _ => by simp [gb] at h
  | n + 1, 0, _, _, hm => by omega
  | n + 1, m + 1, .non, _, _ => by simp [py, pd]
  | n + 1, m + 1, .bl _, _, _ => by simp [py, pd]
  | n + 1, m + 1, .int _, _, _ => by simp [py, pd]
  | n + 1, m + 1, .str _, _, _ => by simp [py, pd]
  | n + 1, m + 1, .tup ds, h, hm => by
    have h : gbs n ds = true := by simpa [gb] using h
    show (ds.mapM (py s m)).map PyData.tuple = _
    rw [pys_gb h (by omega)]; simp [pd]
  | n + 1, m + 1, .ls ds, h, hm => by
    have h : gbs n ds = true := by simpa [gb] using h
    show (ds.mapM (py s m)).map PyData.list = _
    rw [pys_gb h (by omega)]; simp [pd]
  | n + 1, m + 1, .loc _, h, _ => by simp [gb] at h
  | n + 1, m + 1, .xn .., h, _ => by simp [gb] at h
theorem pys_gb {s : Sto} : ∀ {n m : Nat} {ds : List Dv}, gbs n ds = true → n ≤ m → ds.mapM (py s m) = some (pds ds)
  | _, _, [], _, _ => by simp [pds]
  | n, m, d :: r, h, hm => by
    have h : gb n d = true ∧ gbs n r = true := by simpa [gbs] using h
    rw [List.mapM_cons, py_gb h.1 hm, pys_gb h.2 hm]; simp [pds]
end
theorem int_shortB {i : Int} (h : i.natAbs < 10 ^ 100) : (PyData.shown (.int i)).length ≤ 101 := by
  have := int_text_length_le10 (a := i) (k := 100) (by decide) h
  show (Str.ofString (toString i)).length ≤ 101
  rw [PySem.ofString_length]; exact this
theorem log2_big {n : Nat} (h : n < 10 ^ 100) : n.log2 < 333 := by
  by_cases h0 : n = 0
  · subst h0; decide
  · refine (Nat.log2_lt h0).mpr (Nat.lt_of_lt_of_le h (by decide +kernel))
theorem gb_str {n : Nat} {x : Str} : gb (n + 1) (.str x) = true ↔ PyData.strOk x = true ∧ x.cps.size ≤ 4096 := by simp [gb]
mutual
theorem gb_ok : ∀ {n : Nat} {d : Dv}, gb n d = true → (pd d).canLay0 = true ∧ (pd d).intsShort 101 = true ∧ (pd d).showable = true ∧ (pd d).weight ≤ wb d ∧ (pd d).depth ≤ n
  | 0, _, h => by simp [gb] at h
  | n + 1, .non, _ => by simp [pd, PyData.canLay0, PyData.intsShort, PyData.showable, PyData.weight, PyData.depth, wb]
  | n + 1, .bl _, _ => by simp [pd, PyData.canLay0, PyData.intsShort, PyData.showable, PyData.weight, PyData.depth, wb]
  | n + 1, .int i, h => by
    have h : i.natAbs < 10 ^ 100 := by simpa [gb] using h
    have hl := log2_big h
    refine ⟨by simp [pd, PyData.canLay0], ?_, ?_, ?_, by simp [pd, PyData.depth]⟩
    · simp only [pd, PyData.intsShort, decide_eq_true_eq]; exact int_shortB h
    · simp only [pd, PyData.showable, decide_eq_true_eq]; omega
    · simp only [pd, PyData.weight, wb]
      split <;> omega
  | n + 1, .str x, h => by
    have h := (gb_str.mp h).1
    simp [pd, PyData.canLay0, PyData.intsShort, PyData.showable, PyData.weight, PyData.depth, wb, h]
  | n + 1, .tup ds, h => by
    have h : gbs n ds = true := by simpa [gb] using h
    obtain ⟨h1, h2, h3, h4, h5⟩ := gbs_ok h
    refine ⟨by simpa [pd, PyData.canLay0] using h1, by simpa [pd, PyData.intsShort] using h2, by simpa [pd, PyData.showable] using h3, by simpa [pd, PyData.weight, wb] using h4, ?_⟩
    simp only [pd, PyData.depth]; omega
  | n + 1, .ls ds, h => by
    have h : gbs n ds = true := by simpa [gb] using h
    obtain ⟨h1, h2, h3, h4, h5⟩ := gbs_ok h
    refine ⟨by simpa [pd, PyData.canLay0] using h1, by simpa [pd, PyData.intsShort] using h2, by simpa [pd, PyData.showable] using h3, by simpa [pd, PyData.weight, wb] using h4, ?_⟩
    simp only [pd, PyData.depth]; omega
  | n + 1, .loc _, h => by simp [gb] at h
  | n + 1, .xn .., h => by simp [gb] at h
theorem gbs_ok : ∀ {n : Nat} {ds : List Dv}, gbs n ds = true → PyData.canLayAll0 (pds ds) = true ∧ PyData.intsShortAll 101 (pds ds) = true ∧ PyData.showableAll (pds ds) = true ∧ PyData.weightAll (pds ds) ≤ wbs ds ∧ PyData.depthAll (pds ds) ≤ n
  | _, [], _ => by simp [pds, PyData.canLayAll0, PyData.intsShortAll, PyData.showableAll, PyData.weightAll, PyData.depthAll, wbs]
  | n, d :: r, h => by
    have h : gb n d = true ∧ gbs n r = true := by simpa [gbs] using h
    obtain ⟨a1, a2, a3, a4, a5⟩ := gb_ok h.1
    obtain ⟨b1, b2, b3, b4, b5⟩ := gbs_ok h.2
    refine ⟨by simp [pds, PyData.canLayAll0, a1, b1], by simp [pds, PyData.intsShortAll, a2, b2], by simp [pds, PyData.showableAll, a3, b3], ?_, ?_⟩
    · simp only [pds, PyData.weightAll, wbs]; omega
    · simp only [pds, PyData.depthAll]; omega
end
theorem repr_gb {n : Nat} {d : Dv} {s : Sto} (h : gb n d = true) (hn : n ≤ 40) (hw : wb d ≤ 160000) : gRepr [d] s = .ok (.str (pd d).shown) s := by
  obtain ⟨h1, h2, h3, h4, h5⟩ := gb_ok h
  have hl := PyData.shown_le 101 (by decide) (pd d) (PyData.leavesShort_of_canLay0 101 _ h1 h2)
  have hl2 : (pd d).shown.length ≤ 16777216 := by
    have h6 : (101 + 2) * (pd d).weight ≤ 103 * 160000 := Nat.mul_le_mul (by decide) (by omega)
    omega
  show (match pyOf s d with | some p => Rs.iff (p.showable && decide (p.shown.length ≤ 16777216)) (Rs.ok (Dv.str p.shown) s) | none => .bad) = _
  rw [show pyOf s d = some (pd d) from py_gb h hn]
  show Rs.iff ((pd d).showable && decide ((pd d).shown.length ≤ 16777216)) _ = _
  rw [h3, decide_eq_true hl2]; rfl
theorem gb_tup {n : Nat} {ds : List Dv} : gb (n + 1) (.tup ds) = gbs n ds := by simp [gb]
theorem gb_ls {n : Nat} {ds : List Dv} : gb (n + 1) (.ls ds) = gbs n ds := by simp [gb]
theorem gb_mem : ∀ {n : Nat} {ds : List Dv}, gbs n ds = true → ∀ d ∈ ds, gb n d = true
  | _, [], _, d, hd => absurd hd List.not_mem_nil
  | n, x :: r, h, d, hd => by
    have h : gb n x = true ∧ gbs n r = true := by simpa [gbs] using h
    rcases List.mem_cons.mp hd with e | e
    · rw [e]; exact h.1
    · exact gb_mem h.2 d e
theorem gbs_all {n : Nat} : ∀ {ds : List Dv}, (∀ d ∈ ds, gb n d = true) → gbs n ds = true
  | [], _ => by simp [gbs]
  | d :: r, h => by
    simp only [gbs, Bool.and_eq_true]
    exact ⟨h d List.mem_cons_self, gbs_all fun x hx => h x (List.mem_cons_of_mem _ hx)⟩
theorem gbs_sub {n : Nat} {ds es : List Dv} (h : gbs n ds = true) (hs : ∀ d ∈ es, d ∈ ds) : gbs n es = true := gbs_all fun d hd => gb_mem h d (hs d hd)
theorem wbs_app : ∀ (ds es : List Dv), wbs (ds ++ es) = wbs ds + wbs es
  | [], es => by simp [wbs]
  | d :: r, es => by rw [List.cons_append, wbs, wbs, wbs_app r es]; omega
theorem wbs_len : ∀ (ds : List Dv), ds.length ≤ wbs ds
  | [] => Nat.le_refl _
  | d :: r => by have := wbs_len r; rw [wbs, List.length_cons]; omega
theorem wbs_split (ds : List Dv) (k : Nat) : wbs (ds.take k) + wbs (ds.drop k) = wbs ds := by rw [← wbs_app, List.take_append_drop]
theorem wb_mem : ∀ {ds : List Dv} {d : Dv}, d ∈ ds → wb d + 1 ≤ wbs ds
  | [], d, hd => absurd hd List.not_mem_nil
  | x :: r, d, hd => by
    rw [wbs]
    rcases List.mem_cons.mp hd with e | e
    · rw [e]; omega
    · have := wb_mem e; omega
theorem wb_tup {ds : List Dv} : wb (.tup ds) = wbs ds := by simp [wb]
theorem wb_ls {ds : List Dv} : wb (.ls ds) = wbs ds := by simp [wb]
theorem wbs_get {ds : List Dv} {k : Nat} {d : Dv} (h : ds[k]? = some d) : wbs ds = wbs (ds.take k) + (wb d + 1) + wbs (ds.drop (k + 1)) := by
  have hk := (List.getElem?_eq_some_iff.mp h).1
  have e : ds = ds.take k ++ d :: ds.drop (k + 1) := by
    have := (List.getElem?_eq_some_iff.mp h).2
    conv => lhs; rw [← List.take_append_drop k ds, List.drop_eq_getElem_cons hk, this]
  conv => lhs; rw [e, wbs_app, wbs]
  omega
theorem gb_below : ∀ {n : Nat} {d : Dv} (m : Nat), gb n d = true → below m d = true
  | 0, _, _, h => by simp [gb] at h
  | n + 1, .non, _, _ => rfl
  | n + 1, .bl _, _, _ => rfl
  | n + 1, .int _, _, _ => rfl
  | n + 1, .str _, _, _ => rfl
  | n + 1, .tup ds, m, h => below_tup (belows_all fun d hd => gb_below m (gb_mem (gb_tup.symm.trans h) d hd))
  | n + 1, .ls ds, m, h => below_ls (belows_all fun d hd => gb_below m (gb_mem (gb_ls.symm.trans h) d hd))
  | n + 1, .loc _, _, h => by simp [gb] at h
  | n + 1, .xn .., _, h => by simp [gb] at h
theorem gb_okX {n : Nat} {d : Dv} (h : gb n d = true) : okX d = true := by
  cases d with
  | xn => cases n <;> simp [gb] at h
  | _ => rfl
theorem gb_noloc {n : Nat} {d : Dv} (h : gb n d = true) : ∀ k, d ≠ .loc k := fun k e => by
  rw [e] at h
  cases n <;> simp [gb] at h
theorem gbs_shape {n : Nat} {ds : List Dv} (h : gbs n ds = true) (hn : n ≤ 39) {s : Sto} : pyOf s (.tup ds) = some (.tuple (pds ds)) ∧ SeqAt.shaped (.tuple (pds ds)) = true ∧ pyOf s (.ls ds) = some (.list (pds ds)) ∧ SeqAt.shaped (.list (pds ds)) = true := by
  obtain ⟨h1, h2, h3, h4, h5⟩ := gbs_ok h
  refine ⟨?_, ?_, ?_, ?_⟩
  · show (ds.mapM (py s 39)).map PyData.tuple = _
    rw [pys_gb h hn]; rfl
  · simp [SeqAt.shaped, PyData.canLay0, PyData.depth, h1]; omega
  · show (ds.mapM (py s 39)).map PyData.list = _
    rw [pys_gb h hn]; rfl
  · simp [SeqAt.shaped, PyData.canLay0, PyData.depth, h1]; omega
theorem pds_nil {ds : List Dv} : PyData.eqvAll (pds ds) [] = ds.isEmpty := by
  cases ds with
  | nil => simp [pds, PyData.eqvAll]
  | cons d r => simp [pds, PyData.eqvAll]
theorem eqT_nil {n : Nat} {ds : List Dv} (h : gbs n ds = true) (hn : n ≤ 39) {s : Sto} : gEq (.tup ds) (.tup []) s = .ok (.bl ds.isEmpty) s := by
  obtain ⟨h1, h2, _, _⟩ := gbs_shape h hn (s := s)
  obtain ⟨g1, g2, _, _⟩ := gbs_shape (ds := []) (n := 0) rfl (by omega) (s := s)
  show (match pyOf s (.tup ds), pyOf s (.tup []) with | some p, some q => Rs.iff (SeqAt.shaped p && SeqAt.shaped q) (Rs.ok (Dv.bl (PyData.eqv p q)) s) | _, _ => .bad) = _
  rw [h1, g1]
  show Rs.iff (SeqAt.shaped (.tuple (pds ds)) && SeqAt.shaped (.tuple (pds []))) (Rs.ok (Dv.bl (PyData.eqv (.tuple (pds ds)) (.tuple (pds [])))) s) = _
  rw [h2, g2, PyData.eqv, show pds [] = [] by simp [pds], pds_nil]; rfl
theorem eqL_nil {n : Nat} {ds : List Dv} (h : gbs n ds = true) (hn : n ≤ 39) {s : Sto} : gEq (.ls ds) (.ls []) s = .ok (.bl ds.isEmpty) s := by
  obtain ⟨_, _, h1, h2⟩ := gbs_shape h hn (s := s)
  obtain ⟨_, _, g1, g2⟩ := gbs_shape (ds := []) (n := 0) rfl (by omega) (s := s)
  show (match pyOf s (.ls ds), pyOf s (.ls []) with | some p, some q => Rs.iff (SeqAt.shaped p && SeqAt.shaped q) (Rs.ok (Dv.bl (PyData.eqv p q)) s) | _, _ => .bad) = _
  rw [h1, g1]
  show Rs.iff (SeqAt.shaped (.list (pds ds)) && SeqAt.shaped (.list (pds []))) (Rs.ok (Dv.bl (PyData.eqv (.list (pds ds)) (.list (pds [])))) s) = _
  rw [h2, g2, PyData.eqv, show pds [] = [] by simp [pds], pds_nil]; rfl
theorem neL_nil {n : Nat} {ds : List Dv} (h : gbs n ds = true) (hn : n ≤ 39) {s : Sto} : gNe (.ls ds) (.ls []) s = .ok (.bl (!ds.isEmpty)) s := by
  show (gEq (.ls ds) (.ls []) s).bind _ = _
  rw [eqL_nil h hn]; rfl
/-! ### kinds -/
def isStrD : Dv → Bool
  | .str _ => true
  | _ => false
def isTupD : Dv → Bool
  | .tup _ => true
  | _ => false
def isIntD : Dv → Bool
  | .int _ => true
  | .bl _ => true
  | _ => false
def isBlD : Dv → Bool
  | .bl _ => true
  | _ => false
theorem ty_str {n : Nat} {d : Dv} {s : Sto} (h : gb n d = true) : isiB (tyD d s) "str" = isStrD d := by
  cases d with
  | loc k => exact absurd rfl (gb_noloc h k)
  | _ => simp [tyD, isiB, isStrD]
theorem ty_tup {n : Nat} {d : Dv} {s : Sto} (h : gb n d = true) : isiB (tyD d s) "tuple" = isTupD d := by
  cases d with
  | loc k => exact absurd rfl (gb_noloc h k)
  | _ => simp [tyD, isiB, isTupD]
theorem ty_int {n : Nat} {d : Dv} {s : Sto} (h : gb n d = true) : isiB (tyD d s) "int" = isIntD d := by
  cases d with
  | loc k => exact absurd rfl (gb_noloc h k)
  | _ => simp [tyD, isiB, isIntD]
end Z

namespace Z
open PySem PySem.Spec L2

/-! ### words and numbers of any things, rows of any things -/
structure Thg (d : Dv) : Prop where
  g : gb 30 d = true
  w : wb d ≤ 160000
theorem Thg.okX {d : Dv} (h : Thg d) : Z.okX d = true := gb_okX h.g
theorem Thg.mem {ds : List Dv} {d : Dv} (h : gbs 29 ds = true) (hw : wbs ds ≤ 160000) (hd : d ∈ ds) : gb 29 d = true ∧ wb d ≤ 160000 := ⟨gb_mem h d hd, by have := wb_mem hd; omega⟩
mutual
theorem gb_up : ∀ {n m : Nat} {d : Dv}, gb n d = true → n ≤ m → gb m d = true
  | 0, _, _, h, _ => by simp [gb] at h
  | n + 1, 0, _, _, hm => by omega
  | n + 1, m + 1, .non, _, _ => by simp [gb]
  | n + 1, m + 1, .bl _, _, _ => by simp [gb]
  | n + 1, m + 1, .int _, h, _ => by simpa [gb] using h
  | n + 1, m + 1, .str _, h, _ => by simpa [gb] using h
  | n + 1, m + 1, .tup ds, h, hm => by rw [gb_tup] at h ⊢; exact gbs_up h (by omega)
  | n + 1, m + 1, .ls ds, h, hm => by rw [gb_ls] at h ⊢; exact gbs_up h (by omega)
  | n + 1, m + 1, .loc _, h, _ => by simp [gb] at h
  | n + 1, m + 1, .xn .., h, _ => by simp [gb] at h
theorem gbs_up : ∀ {n m : Nat} {ds : List Dv}, gbs n ds = true → n ≤ m → gbs m ds = true
  | _, _, [], _, _ => by simp [gbs]
  | n, m, d :: r, h, hm => by
    have h : gb n d = true ∧ gbs n r = true := by simpa [gbs] using h
    simp only [gbs, Bool.and_eq_true]
    exact ⟨gb_up h.1 hm, gbs_up h.2 hm⟩
end
theorem Thg.tup {ds : List Dv} (h : Thg (.tup ds)) : gbs 29 ds = true ∧ wbs ds ≤ 160000 ∧ ds.length ≤ 160000 := by
  have h1 := h.g
  have h2 := h.w
  rw [gb_tup] at h1
  rw [wb_tup] at h2
  exact ⟨h1, h2, Nat.le_trans (wbs_len ds) h2⟩
theorem Thg.of {ds : List Dv} (h : gbs 29 ds = true) (hw : wbs ds ≤ 160000) {d : Dv} (hd : d ∈ ds) : Thg d := ⟨gb_up (gb_mem h d hd) (by omega), by have := wb_mem hd; omega⟩
theorem Thg.str {z : Str} (h : Thg (.str z)) : PyData.strOk z = true ∧ z.length ≤ 4096 := gb_str.mp h.g
def isFromD : Dv → Bool
  | .int i => decide (0 ≤ i)
  | _ => false
def ThS (φ : Phi) (p : Dv → Bool) : Prop := ∀ (d : Dv) (s : Sto) (T : Dv → Sto → Prop), Thg d → T (.bl (p d)) s → OkE nX (φ [d] s) T
theorem numberT : ThS (fDef 1 1 bNumber) isNumD := fun d s T h hT => number_spec h.okX hT
def bFrom (φn : Phi) : Fn Ct := fRet (fAnd (fCall φn (fCons (fVar 0) (fNil))) (fBin gGe (fVar 0) (fC (.int 0))))
theorem fromT {φn : Phi} (hn : ThS φn isNumD) : ThS (fDef 1 1 (bFrom φn)) isFromD := by
  intro d s T h hT
  rw [ok_def]
  refine ⟨rfl, ?_⟩
  unfold bFrom
  simp only [Y1,Qf,Qt,Qu,Qa,Qg,Qv,Qw,Qx,Qy,Qh,Qz,Jy,Qi,Qb,Qj,Qk,Q0,Jz,Q1,Q2,J0,Q3,Q4,J1,Ql,Qm,Qn,Q5,Qo,Q6,Qp,Q7,Q8,J2,Q9,Ja,J3,J4,J5,Jb,J6,J7,Jc,J8,J9,Jd,Je,Ya,Jf,Yb,Jg,Jh,Y8,Yc,Ji,Yd,Ye,Yf,Yg,Yh,Y2,Jj,Qq,Jk,Yi,Jl,Jm,Yj,Y3,Yk,Yl,Y4,Ym,Y5,Yn,Qc,Yo,Jn,Yp,Yq,Y6,Yr,Qd,Jo,Jp,Y7,Ys,Yt,Yu,Yv,Yw,Yx,Jq,Jr,Qr,Js,Yy,Qe,Qs,List.set_cons_zero,List.set_cons_succ,List.map_cons,List.map_nil,List.replicate,List.cons_append,List.nil_append,List.length_cons,List.length_nil,Bool.false_eq_true,eq_self,if_true,if_false,Nat.zero_add,Jt,Yz,Ju,Jv,Jw,Y0,Jx,true_and]
  refine hn d s _ h ?_
  cases d with
  | int i =>
    simp only [Y1,Qf,Qt,Qu,Qa,Qg,Qv,Qw,Qx,Qy,Qh,Qz,Jy,Qi,Qb,Qj,Qk,Q0,Jz,Q1,Q2,J0,Q3,Q4,J1,Ql,Qm,Qn,Q5,Qo,Q6,Qp,Q7,Q8,J2,Q9,Ja,J3,J4,J5,Jb,J6,J7,Jc,J8,J9,Jd,Je,Ya,Jf,Yb,Jg,Jh,Y8,Yc,Ji,Yd,Ye,Yf,Yg,Yh,Y2,Jj,Qq,Jk,Yi,Jl,Jm,Yj,Y3,Yk,Yl,Y4,Ym,Y5,Yn,Qc,Yo,Jn,Yp,Yq,Y6,Yr,Qd,Jo,Jp,Y7,Ys,Yt,Yu,Yv,Yw,Yx,Jq,Jr,Qr,Js,Yy,Qe,Qs,List.set_cons_zero,List.set_cons_succ,List.map_cons,List.map_nil,List.replicate,List.cons_append,List.nil_append,List.length_cons,List.length_nil,Bool.false_eq_true,eq_self,if_true,if_false,Nat.zero_add,Jt,Yz,Ju,Jv,Jw,Y0,Jx,true_and,isNumD,ge_int]
    exact fin_any (fun n => nofun) hT
  | loc k => exact absurd rfl (gb_noloc h.g k)
  | _ =>
    simp only [Y1,Qf,Qt,Qu,Qa,Qg,Qv,Qw,Qx,Qy,Qh,Qz,Jy,Qi,Qb,Qj,Qk,Q0,Jz,Q1,Q2,J0,Q3,Q4,J1,Ql,Qm,Qn,Q5,Qo,Q6,Qp,Q7,Q8,J2,Q9,Ja,J3,J4,J5,Jb,J6,J7,Jc,J8,J9,Jd,Je,Ya,Jf,Yb,Jg,Jh,Y8,Yc,Ji,Yd,Ye,Yf,Yg,Yh,Y2,Jj,Qq,Jk,Yi,Jl,Jm,Yj,Y3,Yk,Yl,Y4,Ym,Y5,Yn,Qc,Yo,Jn,Yp,Yq,Y6,Yr,Qd,Jo,Jp,Y7,Ys,Yt,Yu,Yv,Yw,Yx,Jq,Jr,Qr,Js,Yy,Qe,Qs,List.set_cons_zero,List.set_cons_succ,List.map_cons,List.map_nil,List.replicate,List.cons_append,List.nil_append,List.length_cons,List.length_nil,Bool.false_eq_true,eq_self,if_true,if_false,Nat.zero_add,Jt,Yz,Ju,Jv,Jw,Y0,Jx,true_and,isNumD]
    exact fin_any (fun n => nofun) hT
theorem wordT : ThS (fDef 1 2 bWord) isWordD := fun d s T h hT => word_spec h.okX (fun z e => by subst e; have := h.str.2; omega) hT
def bFromL : Fn Ct := fRet (fAnd (fIsi "int" (fVar 0)) (fAnd (fNot (fIsi "bool" (fVar 0))) (fBin gGe (fVar 0) (fC (.int 0)))))
def bWordL : Fn Ct :=
  fSeq (fIfS (fOrT (fNotT (fTest (fIsi "str" (fVar 0)))) (fNotT (fTest (fChain gLe gLe (fC (.int 1)) (fCall gLen (fCons (fVar 0) (fNil))) (fC (.int 8)))))) (fRet (fC (.bl false))) (fNop))
  (fRet (fBin gEq (fVal (fLc (fSrcS (fVar 0)) [1] (gNm 1) (fTest (fBin gNotIn (fVar 1) (fC (.str (Str.ofString "abcdefghijklmnopqrstuvwxyz"))))) (fVar 1))) (fVal (fLst (fNil)))))
theorem notin_letters {c : Nat} {s : Sto} : gNotIn (.str ⟨#[c]⟩) (.str (Str.ofString "abcdefghijklmnopqrstuvwxyz")) s = .ok (.bl (!isLet c)) s := by
  unfold gNotIn gNot
  rw [in_letters]; rfl
theorem strOk_char {z : Str} (h : PyData.strOk z = true) {c : Nat} (hc : c ∈ z.cps.toList) : PyData.strOk ⟨#[c]⟩ = true := by
  have h0 : z.cps.all (· < 0x110000) = true := by simpa only [PyData.strOk] using h
  have := (Array.all_eq_true_iff_forall_mem.mp h0) c (Array.mem_toList_iff.mp hc)
  simpa [PyData.strOk] using this
end Z

namespace Z
open PySem PySem.Spec L2

/-! ### unlike texts counted -/
theorem dst_any : ∀ (xs : List Str) (k : Str), (dst xs).any (· == k) = decide (k ∈ xs) := fun xs => by
  induction h : xs.length generalizing xs with
  | zero =>
    have : xs = [] := List.eq_nil_of_length_eq_zero h
    subst this
    intro k; simp [dst]
  | succ n ih =>
    obtain ⟨ys, y, rfl⟩ : ∃ ys y, xs = ys ++ [y] := by
      rcases List.eq_nil_or_concat xs with e | ⟨ys, y, e⟩
      · subst e; cases h
      · exact ⟨ys, y, by rw [e]; simp⟩
    intro k
    rw [dst_snoc, dstS_any, ih ys (by simpa using h)]
    by_cases e1 : k ∈ ys <;> by_cases e2 : k = y <;> simp [e1, e2]
theorem dst_nodup : ∀ xs : List Str, (dst xs).length = xs.length ↔ xs.Nodup := fun xs => by
  induction h : xs.length generalizing xs with
  | zero =>
    have : xs = [] := List.eq_nil_of_length_eq_zero h
    subst this
    simp [dst]
  | succ n ih =>
    obtain ⟨ys, y, rfl⟩ : ∃ ys y, xs = ys ++ [y] := by
      rcases List.eq_nil_or_concat xs with e | ⟨ys, y, e⟩
      · subst e; cases h
      · exact ⟨ys, y, by rw [e]; simp⟩
    have hl : ys.length = n := by simpa using h
    have ih := ih ys hl
    have hle := dst_le ys
    rw [dst_snoc, dstS_len, dst_any, List.nodup_append]
    by_cases e : y ∈ ys
    · rw [decide_eq_true e, if_pos rfl]
      refine ⟨fun h => by omega, fun h => ?_⟩
      exact absurd rfl (h.2.2 y e y (List.mem_singleton.mpr rfl))
    · rw [decide_eq_false e, if_neg Bool.false_ne_true]
      refine ⟨fun h => ⟨ih.mp (by omega), by simp, fun a ha b hb => ?_⟩, fun h => ?_⟩
      · rw [List.mem_singleton.mp hb]; exact fun z => e (z ▸ ha)
      · have := ih.mpr h.1; omega
/-! ### rows of groups -/
structure Gr where
  name : Str
  many : Int
  slip : Int
def encG (g : Gr) : Dv := .tup [.str g.name, .int g.many, .int g.slip]
def isRowG : Dv → Bool
  | .tup [n, a, b] => isWordD n && (isFromD a && isFromD b)
  | _ => false
def nmsG (gs : List Gr) : List Str := gs.map (·.name)
def GrOf (gs : List Gr) : Prop := (∀ g ∈ gs, isRowG (encG g) = true) ∧ (nmsG gs).Nodup
def IsGr (d : Dv) : Prop := ∃ gs : List Gr, d = .tup (gs.map encG) ∧ GrOf gs
def IsGrS (φ : Phi) : Prop := ∀ (d : Dv) (s : Sto) (T : Dv → Sto → Prop), Thg d → Fl s → (IsGr d → T (.bl true) s) → (¬ IsGr d → T (.bl false) s) → OkE nX (φ [d] s) T
theorem three_of {ds : List Dv} (h : ds.length = 3) : ∃ n a b, ds = [n, a, b] := by
  match ds, h with
  | [n, a, b], _ => exact ⟨n, a, b, rfl⟩
def bRowG (φw φf : Phi) : Fn Ct :=
  fSeq (fIfS (fOrT (fNotT (fTest (fIsi "tuple" (fVar 0)))) (fOrT (fTest (fBin gNe (fCall gLen (fCons (fVar 0) (fNil))) (fC (.int 3)))) (fNotT (fTest (fCall φw (fCons (fBin gIx (fVar 0) (fC (.int 0))) (fNil))))))) (fRet (fC (.bl false))) (fNop))
  (fRet (fAnd (fCall φf (fCons (fBin gIx (fVar 0) (fC (.int 1))) (fNil))) (fCall φf (fCons (fBin gIx (fVar 0) (fC (.int 2))) (fNil)))))
/-! ### a group -/
def kLenSet (T : Dv → Sto → Prop) : Dv → Sto → Prop := fun x s => ∃ zs, (seqOf s x).bind strs? = some zs ∧ decide (zs.length ≤ 4000) = true ∧ T (.int (dst zs).length) s
theorem ok_lenSet {f : Fn Dv} {env : En} {s : Sto} {T : Dv → Sto → Prop} : OkE nX (fLenSet f env s) T ↔ OkE nX (f env s) (kLenSet T) := by
  unfold fLenSet; rw [ok_bind]
  refine ⟨fun h => h.mono fun x s h => ?_, fun h => h.mono fun x s h => ?_⟩
  · split at h
    · rename_i zs e
      obtain ⟨h1, h2⟩ := ok_iff.mp h
      exact ⟨zs, e, h1, h2⟩
    · exact h.elim
  · obtain ⟨zs, e, h1, h2⟩ := h
    rw [e]
    exact ok_iff.mpr ⟨h1, h2⟩
theorem kLenSet_tup {zs : List Str} {s : Sto} {T : Dv → Sto → Prop} (hz : zs.length ≤ 4000) (h : T (.int (dst zs).length) s) : kLenSet T (.tup (zs.map .str)) s := ⟨zs, strs?_map zs, decide_eq_true hz, h⟩
def bGroup (φr : Phi) : Fn Ct :=
  fSeq (fIfS (fOrT (fNotT (fTest (fIsi "tuple" (fVar 0)))) (fNotT (fTest (fCall gAll (fCons (fVal (fLc (fSrc (fVar 0)) [1] (gNm 1) (fYes) (fCall φr (fCons (fVar 1) (fNil))))) (fNil)))))) (fRet (fC (.bl false))) (fNop))
  (fRet (fBin gEq (fLenSet (fVal (fLc (fSrc (fVar 0)) [1] (gNm 1) (fYes) (fBin gIx (fVar 1) (fC (.int 0)))))) (fCall gLen (fCons (fVar 0) (fNil)))))
end Z

namespace Z
open PySem PySem.Spec L2

/-! ### groups by the law's own look -/
def bGrL4 : Fn Ct :=
  (fSeq (fIfS (fTest (fBin gNe (fVal (fLc (fSrc (fSl (fVar 2) (fPart (fC (.int 1))) (fNoPart))) [3] (gNm 3) (fOrT (fNotT (fTest (fIsi "int" (fVar 3)))) (fOrT (fTest (fIsi "bool" (fVar 3))) (fTest (fBin gLt (fVar 3) (fC (.int 0)))))) (fVar 3))) (fVal (fLst (fNil))))) (fRet (fC (.bl false))) (fNop))
  (fDrop (fMt isL gAppend (fVar 1) (fCons (fBin gIx (fVar 2) (fC (.int 0))) (fNil)))))
def bGrL3 : Fn Ct :=
  (fSeq (fIfS (fOrT (fTest (fBin gNe (fVal (fLc (fSrcS (fBin gIx (fVar 2) (fC (.int 0)))) [4] (gNm 4) (fNotT (fTest (fChain gLe gLe (fC (.str (Str.ofString "a"))) (fVar 4) (fC (.str (Str.ofString "z")))))) (fVar 4))) (fVal (fLst (fNil))))) (fTest (fBin gIn (fBin gIx (fVar 2) (fC (.int 0))) (fVar 1)))) (fRet (fC (.bl false))) (fNop))
  bGrL4)
def bGrL2 : Fn Ct :=
  (fSeq (fIfS (fOrT (fNotT (fTest (fIsi "tuple" (fVar 2)))) (fOrT (fTest (fBin gNe (fCall gLen (fCons (fVar 2) (fNil))) (fC (.int 3)))) (fOrT (fNotT (fTest (fIsi "str" (fBin gIx (fVar 2) (fC (.int 0)))))) (fNotT (fTest (fChain gLe gLe (fC (.int 1)) (fCall gLen (fCons (fBin gIx (fVar 2) (fC (.int 0))) (fNil))) (fC (.int 8)))))))) (fRet (fC (.bl false))) (fNop))
  bGrL3)
def bGrL : Fn Ct :=
  fSeq (fIfS (fNotT (fTest (fIsi "tuple" (fVar 0)))) (fRet (fC (.bl false))) (fNop))
  (fSeq (fSet 1 (fNew (fLst (fNil))))
  (fSeq (fFor (fSrc (fVar 0)) (gNm 2) bGrL2)
  (fRet (fC (.bl true)))))
end Z

namespace Z
open PySem PySem.Spec L2

/-! ### data of bounded leaves -/
mutual
/-- ints up to m, texts of at most k signs, n deep -/
def gp (m k : Nat) : Nat → Dv → Bool
  | 0, _ => false
  | _ + 1, .non => true
  | _ + 1, .bl _ => true
  | _ + 1, .int i => decide (i.natAbs ≤ m)
  | _ + 1, .str x => PyData.strOk x && decide (x.cps.size ≤ k)
  | n + 1, .tup ds => gps m k n ds
  | n + 1, .ls ds => gps m k n ds
  | _ + 1, .loc _ => false
  | _ + 1, .xn .. => false
def gps (m k : Nat) : Nat → List Dv → Bool
  | _, [] => true
  | n, d :: r => gp m k n d && gps m k n r
end
mutual
theorem gp_up {m k m2 k2 : Nat} (hm : m ≤ m2) (hk : k ≤ k2) : ∀ {n l : Nat} {d : Dv}, gp m k n d = true → n ≤ l → gp m2 k2 l d = true
  | 0, _, _, h, _ => by simp [gp] at h
  | n + 1, 0, _, _, hn => by omega
  | n + 1, l + 1, .non, _, _ => by simp [gp]
  | n + 1, l + 1, .bl _, _, _ => by simp [gp]
  | n + 1, l + 1, .int i, h, _ => by
    have h : i.natAbs ≤ m := by simpa [gp] using h
    simp only [gp, decide_eq_true_eq]; omega
  | n + 1, l + 1, .str x, h, _ => by
    have h : PyData.strOk x = true ∧ x.cps.size ≤ k := by simpa [gp] using h
    simp only [gp, Bool.and_eq_true, decide_eq_true_eq]
    exact ⟨h.1, by omega⟩
  | n + 1, l + 1, .tup ds, h, hn => by
    simp only [gp] at h ⊢; exact gps_up hm hk h (by omega)
  | n + 1, l + 1, .ls ds, h, hn => by
    simp only [gp] at h ⊢; exact gps_up hm hk h (by omega)
  | n + 1, l + 1, .loc _, h, _ => by simp [gp] at h
  | n + 1, l + 1, .xn .., h, _ => by simp [gp] at h
theorem gps_up {m k m2 k2 : Nat} (hm : m ≤ m2) (hk : k ≤ k2) : ∀ {n l : Nat} {ds : List Dv}, gps m k n ds = true → n ≤ l → gps m2 k2 l ds = true
  | _, _, [], _, _ => by simp [gps]
  | n, l, d :: r, h, hn => by
    have h : gp m k n d = true ∧ gps m k n r = true := by simpa [gps] using h
    simp only [gps, Bool.and_eq_true]
    exact ⟨gp_up hm hk h.1 hn, gps_up hm hk h.2 hn⟩
end
mutual
theorem gp_gb {m k : Nat} (hm : m < 10 ^ 100) (hk : k ≤ 4096) : ∀ {n : Nat} {d : Dv}, gp m k n d = true → gb n d = true
  | 0, _, h => by simp [gp] at h
  | n + 1, .non, _ => by simp [gb]
  | n + 1, .bl _, _ => by simp [gb]
  | n + 1, .int i, h => by
    have h : i.natAbs ≤ m := by simpa [gp] using h
    simp only [gb, decide_eq_true_eq]; exact Nat.lt_of_le_of_lt h hm
  | n + 1, .str x, h => by
    have h : PyData.strOk x = true ∧ x.cps.size ≤ k := by simpa [gp] using h
    exact gb_str.mpr ⟨h.1, by omega⟩
  | n + 1, .tup ds, h => by
    simp only [gp] at h; exact gb_tup.trans (gps_gbs hm hk h)
  | n + 1, .ls ds, h => by
    simp only [gp] at h; exact gb_ls.trans (gps_gbs hm hk h)
  | n + 1, .loc _, h => by simp [gp] at h
  | n + 1, .xn .., h => by simp [gp] at h
theorem gps_gbs {m k : Nat} (hm : m < 10 ^ 100) (hk : k ≤ 4096) : ∀ {n : Nat} {ds : List Dv}, gps m k n ds = true → gbs n ds = true
  | _, [], _ => by simp [gbs]
  | n, d :: r, h => by
    have h : gp m k n d = true ∧ gps m k n r = true := by simpa [gps] using h
    simp only [gbs, Bool.and_eq_true]
    exact ⟨gp_gb hm hk h.1, gps_gbs hm hk h.2⟩
end
theorem gp_tup {m k n : Nat} {ds : List Dv} : gp m k (n + 1) (.tup ds) = gps m k n ds := by simp [gp]
theorem gp_ls {m k n : Nat} {ds : List Dv} : gp m k (n + 1) (.ls ds) = gps m k n ds := by simp [gp]
theorem gp_str {m k n : Nat} {x : Str} : gp m k (n + 1) (.str x) = true ↔ PyData.strOk x = true ∧ x.cps.size ≤ k := by simp [gp]
theorem gp_int {m k n : Nat} {i : Int} : gp m k (n + 1) (.int i) = true ↔ i.natAbs ≤ m := by simp [gp]
theorem gps_mem {m k n : Nat} : ∀ {ds : List Dv}, gps m k n ds = true → ∀ d ∈ ds, gp m k n d = true
  | [], _, d, hd => absurd hd List.not_mem_nil
  | x :: r, h, d, hd => by
    have h : gp m k n x = true ∧ gps m k n r = true := by simpa [gps] using h
    rcases List.mem_cons.mp hd with e | e
    · rw [e]; exact h.1
    · exact gps_mem h.2 d e
theorem gps_all {m k n : Nat} : ∀ {ds : List Dv}, (∀ d ∈ ds, gp m k n d = true) → gps m k n ds = true
  | [], _ => by simp [gps]
  | d :: r, h => by
    simp only [gps, Bool.and_eq_true]
    exact ⟨h d List.mem_cons_self, gps_all fun x hx => h x (List.mem_cons_of_mem _ hx)⟩
theorem wbs_perm {ds es : List Dv} (h : ds.Perm es) : wbs ds = wbs es := by
  induction h with
  | nil => rfl
  | cons d _ ih => rw [wbs, wbs, ih]
  | swap a b l => simp only [wbs]; omega
  | trans _ _ h1 h2 => exact h1.trans h2
theorem strOk_of (s : String) : PyData.strOk (Str.ofString s) = true := by
  rw [PySem.Str.ofString_eq_toList]
  simp only [PyData.strOk]
  rw [Array.all_eq_true_iff_forall_mem]
  intro c hc
  simp only [List.mem_toArray, List.mem_map] at hc
  obtain ⟨a, _, rfl⟩ := hc
  have := a.valid
  simp only [decide_eq_true_eq]
  have h2 : a.toNat < 0x110000 := by
    rcases a.valid with h | ⟨_, h⟩
    · exact Nat.lt_of_lt_of_le h (by decide)
    · exact h
  exact h2
/-- what is so bounded, of so much weight -/
structure Md (m k n w : Nat) (d : Dv) : Prop where
  g : gp m k n d = true
  w : wb d ≤ w
theorem Md.up {m k n w m2 k2 n2 w2 : Nat} {d : Dv} (h : Md m k n w d) (h1 : m ≤ m2) (h2 : k ≤ k2) (h3 : n ≤ n2) (h4 : w ≤ w2) : Md m2 k2 n2 w2 d := ⟨gp_up h1 h2 h.g h3, Nat.le_trans h.w h4⟩
def timesD (n : Nat) (ds : List Dv) : List Dv := (List.replicate n ds).flatten
theorem mem_rep {n : Nat} {ds : List Dv} {e : Dv} (h : e ∈ timesD n ds) : e ∈ ds := by
  unfold timesD at h
  obtain ⟨l, hl, he⟩ := List.mem_flatten.mp h
  rw [(List.mem_replicate.mp hl).2] at he
  exact he
end Z

namespace Z
open PySem PySem.Spec L2

/-! ### another thing in the place of one -/
theorem cut_mem {ds : List Dv} {lo hi : Option Int} : ∀ e ∈ cutD ds lo hi, e ∈ ds := fun e h => List.mem_of_mem_drop (List.mem_of_mem_take h)
theorem cut_wbs {ds : List Dv} {lo hi : Option Int} : wbs (cutD ds lo hi) ≤ wbs ds := by
  unfold cutD
  have h1 := wbs_split ds (HT.sIx ds.length 0 lo)
  have h2 := wbs_split (ds.drop (HT.sIx ds.length 0 lo)) (HT.sIx ds.length ds.length hi - HT.sIx ds.length 0 lo)
  omega
theorem cut_len {ds : List Dv} {lo hi : Option Int} : (cutD ds lo hi).length ≤ ds.length := by
  unfold cutD; rw [List.length_take, List.length_drop]; omega
theorem cutS_ok {z : Str} {lo hi : Option Int} (h : PyData.strOk z = true) : PyData.strOk (cutS z lo hi) = true ∧ (cutS z lo hi).cps.size ≤ z.cps.size := by
  have h0 : z.cps.all (· < 0x110000) = true := by simpa only [PyData.strOk] using h
  have h1 := Array.all_eq_true_iff_forall_mem.mp h0
  refine ⟨?_, ?_⟩
  · simp only [PyData.strOk]
    rw [Array.all_eq_true_iff_forall_mem]
    intro c hc
    unfold cutS at hc
    rw [List.mem_toArray] at hc
    exact h1 c (Array.mem_toList_iff.mp (List.mem_of_mem_drop (List.mem_of_mem_take hc)))
  · unfold cutS
    rw [List.size_toArray, List.length_take, List.length_drop, Array.length_toList]
    omega
theorem sl_any {ds : List Dv} {lo hi : Option Int} {s : Sto} : gSl (.tup ds) lo hi s = .ok (.tup (cutD ds lo hi)) s := rfl
def bOdd4 (φd : Phi) : Fn Ct :=
  (fRet (fBin gIx (fVar 2) (fCall φd (fCons (fVar 0) (fCons (fCall gLen (fCons (fVar 2) (fNil))) (fNil))))))
def bOdd3 (φd : Phi) : Fn Ct :=
  (fSeq (fIfS (fTest (fIsi "tuple" (fVar 1))) (fSet 2 (fVal (fCatL (fVar 2) (fVal (fTimesL (fLst (fCons (fVal (fCallL gList (fCons (fVar 1) (fNil)))) (fCons (fBin gAddB (fVar 1) (fTup (fCons (fC .non) (fNil)))) (fCons (fBin gAddB (fVar 1) (fSl (fVar 1) (fPart (fUn gNeg (fC (.int 1)))) (fNoPart))) (fCons (fSl (fVar 1) (fNoPart) (fPart (fUn gNeg (fC (.int 1))))) (fCons (fRevT (fVar 1)) (fNil))))))) 3))))) (fNop))
  (bOdd4 φd))
def bOdd2 (φd : Phi) : Fn Ct :=
  (fSeq (fIfS (fTest (fIsi "str" (fVar 1))) (fSet 2 (fVal (fCatL (fVar 2) (fVal (fTimesL (fLst (fCons (fBin gAddB (fVar 1) (fC (.str (Str.ofString "a")))) (fCons (fSl (fVar 1) (fNoPart) (fPart (fUn gNeg (fC (.int 1))))) (fCons (fC (.str (Str.ofString "b"))) (fCons (fC (.str (Str.ofString "by"))) (fNil)))))) 3))))) (fNop))
  (bOdd3 φd))
def bOdd1 (φd : Phi) : Fn Ct :=
  (fSeq (fIfS (fTest (fIsi "int" (fVar 1))) (fSet 2 (fVal (fCatL (fVar 2) (fVal (fTimesL (fLst (fCons (fBin gAddB (fVar 1) (fC (.int 1))) (fCons (fBin gSubB (fVar 1) (fC (.int 1))) (fCons (fCall gStrB (fCons (fVar 1) (fNil))) (fNil))))) 5))))) (fNop))
  (bOdd2 φd))
def bOdd (φd : Phi) : Fn Ct :=
  fSeq (fSet 2 (fVal (fLst (fCons (fC .non) (fCons (fC (.bl true)) (fCons (fC (.bl false)) (fCons (fC (.str (Str.ofString ""))) (fCons (fVal (fLst (fNil))) (fCons (fTup (fNil)) (fCons (fC (.int 0)) (fCons (fC (.int 1)) (fCons (fUn gNeg (fC (.int 1))) (fCons (fC (.str (Str.ofString "a"))) (fCons (fC (.str (Str.ofString "z"))) (fCons (fC (.str (Str.ofString "A"))) (fCons (fC (.str (Str.ofString "ab"))) (fCons (fBin gPow (fC (.int 10)) (fC (.int 40))) (fCons (fC (.str (Str.ofString "many"))) (fCons (fC (.str (Str.ofString "short"))) (fCons (fC (.str (Str.ofString "by"))) (fCons (fVal (fLst (fCons (fC (.str (Str.ofString "a"))) (fNil)))) (fNil))))))))))))))))))))))
  (fSeq (fSet 2 (fVal (fCatL (fVar 2) (fVal (fLst (fCons (fTup (fCons (fC (.str (Str.ofString "a"))) (fNil))) (fCons (fTup (fCons (fC (.str (Str.ofString "many"))) (fNil))) (fNil))))))))
  (bOdd1 φd))
def oddG : List Dv := [.non, .bl true, .bl false, .str (Str.ofString ""), .ls [], .tup [], .int 0, .int 1, .int (-1), .str (Str.ofString "a"), .str (Str.ofString "z"), .str (Str.ofString "A"), .str (Str.ofString "ab"), .int (10 ^ 40), .str (Str.ofString "many"), .str (Str.ofString "short"), .str (Str.ofString "by"), .ls [.str (Str.ofString "a")]] ++ [.tup [.str (Str.ofString "a")], .tup [.str (Str.ofString "many")]]
def OddS (φ : Phi) : Prop := ∀ (m k n w : Nat) (f : Feed) (r : Sto) (d : Dv), 10 ^ 40 ≤ m → m < 10 ^ 99 → 101 ≤ k → k ≤ 4000 → 1 ≤ n → f.Wf → f.calls < 1000000 → Fl r → w ≤ 160000 → Md m k n w d →
  OkE nX (φ [.loc 0, d] (feedOb f :: r)) fun d' s' => ∃ f' : Feed, Md (m + 1) (k + 1) (n + 1) (2 * w + 400) d' ∧ s' = feedOb f' :: r ∧ f'.Wf ∧ f'.calls = f.calls + 1
theorem gp_below {m k : Nat} (hm : m < 10 ^ 100) (hk : k ≤ 4096) {n : Nat} {d : Dv} (j : Nat) (h : gp m k n d = true) : below j d = true := gb_below j (gp_gb hm hk h)
def stepQ (m k n w : Nat) (L : List Dv) : Prop := (∀ e ∈ L, Md (m + 1) (k + 1) (n + 1) (2 * w + 400) e) ∧ 1 ≤ L.length
theorem rep_len (n : Nat) (ds : List Dv) : (timesD n ds).length = n * ds.length := by unfold timesD; simp
end Z

namespace Z
open PySem PySem.Spec L2

/-! ### a group spoilt -/
def kRevT (T : Dv → Sto → Prop) : Dv → Sto → Prop := fun d s => match d with | .tup ds => T (.tup ds.reverse) s | _ => False
theorem kRevT_tup {T : Dv → Sto → Prop} {ds : List Dv} {s : Sto} : kRevT T (.tup ds) s = T (.tup ds.reverse) s := rfl
theorem ok_revT {f : Fn Dv} {env : En} {s : Sto} {T : Dv → Sto → Prop} : OkE nX (fRevT f env s) T ↔ OkE nX (f env s) (kRevT T) := by
  unfold fRevT; rw [ok_bind]
  cases f env s with
  | ok c s1 => cases c <;> exact Iff.rfl
  | _ => exact Iff.rfl
def bSpoil2 (ψ : Phi) : Fn Ct :=
  (fSeq (fIfS (fTest (fBin gEq (fVar 3) (fC (.int 0)))) (fRet (fBin gAdd (fSl (fVar 1) (fNoPart) (fPart (fVar 2))) (fSl (fVar 1) (fPart (fBin gAdd (fVar 2) (fC (.int 1)))) (fNoPart)))) (fNop))
  (fSeq (fIfS (fTest (fBin gEq (fVar 3) (fC (.int 1)))) (fRet (fBin gAdd (fSl (fVar 1) (fNoPart) (fPart (fBin gAdd (fVar 2) (fC (.int 1))))) (fSl (fVar 1) (fPart (fVar 2)) (fNoPart)))) (fNop))
  (fSeq (fIfS (fTest (fBin gEq (fVar 3) (fC (.int 2)))) (fRet (fBin gAdd (fBin gAdd (fSl (fVar 1) (fNoPart) (fPart (fVar 2))) (fRevT (fSl (fVar 1) (fPart (fVar 2)) (fPart (fBin gAdd (fVar 2) (fC (.int 2))))))) (fSl (fVar 1) (fPart (fBin gAdd (fVar 2) (fC (.int 2)))) (fNoPart)))) (fNop))
  (fRet (fBin gAdd (fBin gAdd (fSl (fVar 1) (fNoPart) (fPart (fVar 2))) (fTup (fCons (fCall ψ (fCons (fVar 0) (fCons (fBin gIx (fVar 1) (fVar 2)) (fNil)))) (fNil)))) (fSl (fVar 1) (fPart (fBin gAdd (fVar 2) (fC (.int 1)))) (fNoPart)))))))
def bSpoil (φd φo ψ : Phi) : Fn Ct :=
  fSeq (fIfS (fOrT (fNotT (fTest (fIsi "tuple" (fVar 1)))) (fOrT (fTest (fBin gEq (fCall gLen (fCons (fVar 1) (fNil))) (fC (.int 0)))) (fTest (fBin gEq (fCall φd (fCons (fVar 0) (fCons (fC (.int 6)) (fNil)))) (fC (.int 0)))))) (fRet (fCall φo (fCons (fVar 0) (fCons (fVar 1) (fNil))))) (fNop))
  (fSeq (fSet 2 (fCall φd (fCons (fVar 0) (fCons (fCall gLen (fCons (fVar 1) (fNil))) (fNil)))))
  (fSeq (fSet 3 (fCall φd (fCons (fVar 0) (fCons (fC (.int 9)) (fNil)))))
  (bSpoil2 ψ)))
def SpoilS (j : Nat) (φ : Phi) : Prop := ∀ (m k w : Nat) (f : Feed) (r : Sto) (d : Dv), 10 ^ 40 ≤ m → m < 10 ^ 99 → 101 ≤ k → k ≤ 4000 → f.Wf → f.calls + 5 * j ≤ 1000000 → Fl r → w ≤ 160000 → Md m k j w d →
  OkE nX (φ [.loc 0, d] (feedOb f :: r)) fun d' s' => ∃ f' : Feed, Md (m + 1) (k + 1) (j + 1) (3 * w + 400) d' ∧ s' = feedOb f' :: r ∧ f'.Wf ∧ f.calls ≤ f'.calls ∧ f'.calls ≤ f.calls + 5 * j
end Z

namespace Z
open PySem PySem.Spec L2

/-! ### a text in great letters -/
theorem lenS {z : Str} {n : Nat} (h : z.cps.size = n) : z.length = n := h
theorem app_ok {a b : Str} (ha : PyData.strOk a = true) (hb : PyData.strOk b = true) : PyData.strOk (a ++ b) = true ∧ (a ++ b).cps.size = a.cps.size + b.cps.size := by
  have e : (a ++ b).cps = a.cps ++ b.cps := rfl
  have h1 : a.cps.all (· < 0x110000) = true := by simpa only [PyData.strOk] using ha
  have h2 : b.cps.all (· < 0x110000) = true := by simpa only [PyData.strOk] using hb
  refine ⟨?_, by rw [e]; simp⟩
  simp only [PyData.strOk, e]
  rw [Array.all_append, h1, h2]; rfl
theorem shifted_lt {M : Nat} : ∀ {rows : List (Nat × Nat × Nat)} {c x : Nat}, (rows.all fun r => decide (r.2.2 + (r.2.1 - r.1) < M)) = true → Unicode.shifted rows c = some x → x < M
  | [], _, _, _, h => by cases h
  | (a, b, t) :: rest, c, x, hr, h => by
    rw [List.all_cons, Bool.and_eq_true] at hr
    have h1 := of_decide_eq_true hr.1
    unfold Unicode.shifted at h
    split at h
    · cases h
    · split at h
      · cases h
        have h1 : t + (b - a) < M := h1
        omega
      · exact shifted_lt hr.2 h
theorem look_mem {α : Type} : ∀ {rows : List (Nat × α)} {c : Nat} {y : α}, rows.lookup c = some y → ∃ r ∈ rows, r.2 = y
  | [], _, _, h => by cases h
  | (a, z) :: rest, c, y, h => by
    rw [List.lookup_cons] at h
    cases e : c == a with
    | true =>
      rw [e] at h
      cases h
      exact ⟨_, List.mem_cons_self, rfl⟩
    | false =>
      rw [e] at h
      obtain ⟨r, hr, hy⟩ := look_mem h
      exact ⟨r, List.mem_cons_of_mem _ hr, hy⟩
theorem upperOf_ok {c : Nat} (h : c < 0x110000) : (Unicode.upperOf c).length ≤ 3 ∧ ∀ x ∈ Unicode.upperOf c, x < 0x110000 := by
  have h1 : (UnicodeData.severalUpper.all fun r => decide (r.2.length ≤ 3) && r.2.all fun x => decide (x < 0x110000)) = true := by decide +kernel
  have h2 : (UnicodeData.oneUpper.all fun r => decide (r.2.2 + (r.2.1 - r.1) < 0x110000)) = true := by decide +kernel
  unfold Unicode.upperOf Unicode.image
  split
  · rename_i cs hl
    obtain ⟨r, hr, rfl⟩ := look_mem hl
    have h3 := List.all_eq_true.mp h1 r hr
    rw [Bool.and_eq_true] at h3
    exact ⟨of_decide_eq_true h3.1, fun x hx => of_decide_eq_true (List.all_eq_true.mp h3.2 x hx)⟩
  · refine ⟨by simp, fun x hx => ?_⟩
    rw [List.mem_singleton] at hx
    subst hx
    cases e : Unicode.shifted UnicodeData.oneUpper c with
    | none => exact h
    | some x => exact shifted_lt h2 e
theorem flat_lenH : ∀ {ls : List (List Nat)}, (∀ l ∈ ls, l.length ≤ 3) → ls.flatten.length ≤ 3 * ls.length
  | [], _ => by simp
  | l :: r, h => by
    have h1 := h l List.mem_cons_self
    have h2 := flat_lenH fun x hx => h x (List.mem_cons_of_mem _ hx)
    rw [List.flatten_cons, List.length_append, List.length_cons]; omega
theorem upper_ok {z : Str} (h : PyData.strOk z = true) : PyData.strOk (Txt.upper z) = true ∧ (Txt.upper z).cps.size ≤ 3 * z.cps.size := by
  have h0 : z.cps.all (· < 0x110000) = true := by simpa only [PyData.strOk] using h
  have h1 := Array.all_eq_true_iff_forall_mem.mp h0
  have e : (Txt.upper z).cps.toList = (z.cps.toList.map Unicode.upperOf).flatten := by
    show (PySem.placed z fun _ c => Unicode.upperOf c).toList = _
    unfold PySem.placed
    have e2 : ∀ l : List Nat, List.mapIdx (fun _ c => (Unicode.upperOf c).toArray) l = l.map fun c => (Unicode.upperOf c).toArray := fun l => by
      apply List.ext_getElem?
      intro i; simp
    simp only [Array.toList_flatten, Array.toList_mapIdx, e2, List.map_map]
    congr 1
  have h2 : ∀ c ∈ z.cps.toList, c < 0x110000 := fun c hc => by simpa using h1 c (Array.mem_toList_iff.mp hc)
  refine ⟨?_, ?_⟩
  · simp only [PyData.strOk]
    rw [Array.all_eq_true_iff_forall_mem]
    intro c hc
    have hc := Array.mem_toList_iff.mpr hc
    rw [e] at hc
    obtain ⟨l, hl, hx⟩ := List.mem_flatten.mp hc
    obtain ⟨b, hb, rfl⟩ := List.mem_map.mp hl
    exact decide_eq_true ((upperOf_ok (h2 b hb)).2 c hx)
  · have := flat_lenH (ls := z.cps.toList.map Unicode.upperOf) fun l hl => by
      obtain ⟨b, hb, rfl⟩ := List.mem_map.mp hl
      exact (upperOf_ok (h2 b hb)).1
    rw [← e, List.length_map, Array.length_toList, Array.length_toList] at this
    exact this
/-! ### the odd things -/
theorem pickP {L : List Dv} {P : Dv → Prop} (hL : ∀ e ∈ L, P e) {x : Int} (h0 : 0 ≤ x) (h1 : x < (L.length : Int)) : ∃ e, (∀ s : Sto, gIx (.ls L) (.int x) s = .ok e s) ∧ P e := by
  have hx : x.toNat < L.length := by omega
  exact ⟨L[x.toNat], fun s => ix_ls h0 (List.getElem?_eq_getElem hx), hL _ (List.getElem_mem hx)⟩
def bOddT (φt : Phi) : Fn Ct :=
  fSeq (fSet 1 (fVal (fLst (fCons (fC .non) (fCons (fC (.bl true)) (fCons (fC (.bl false)) (fCons (fC (.int 0)) (fCons (fC (.int 1)) (fCons (fUn gNeg (fC (.int 1))) (fCons (fBin gPow (fC (.int 10)) (fC (.int 50))) (fCons (fC (.str (Str.ofString ""))) (fCons (fC (.str (Str.ofString "a"))) (fCons (fC (.str (Str.ofString "A"))) (fCons (fC (.str (Str.ofString "abcdefghi"))) (fCons (fTup (fNil)) (fCons (fVal (fLst (fNil))) (fCons (fTup (fCons (fC (.str (Str.ofString "a"))) (fNil))) (fCons (fVal (fLst (fCons (fC (.str (Str.ofString "a"))) (fNil)))) (fCons (fC (.str (Str.ofString "q"))) (fNil))))))))))))))))))))
  (fRet (fBin gIx (fVar 1) (fCall φt (fCons (fVar 0) (fCons (fC (.int 16)) (fNil))))))
/-- how many a tuple holds -/
def tl : Dv → Nat
  | .tup ds => ds.length
  | _ => 0
def oddTs : List Dv := [.non, .bl true, .bl false, .int 0, .int 1, .int (-1), .int (10 ^ 50), .str (Str.ofString ""), .str (Str.ofString "a"), .str (Str.ofString "A"), .str (Str.ofString "abcdefghi"), .tup [], .ls [], .tup [.str (Str.ofString "a")], .ls [.str (Str.ofString "a")], .str (Str.ofString "q")]
theorem oddTs_ok : ∀ e ∈ oddTs, Md (10 ^ 50) 9 2 399 e := by
  intro e he
  unfold oddTs at he
  simp only [List.mem_cons, List.not_mem_nil, or_false] at he
  have ha : PyData.strOk (Str.ofString "a") = true ∧ (Str.ofString "a").cps.size ≤ 9 := by decide +kernel
  have hs : ∀ x : String, (PyData.strOk (Str.ofString x) = true ∧ (Str.ofString x).cps.size ≤ 9) → Md (10 ^ 50) 9 2 399 (.str (Str.ofString x)) := fun x h => ⟨gp_str.mpr h, by simp only [wb]; omega⟩
  rcases he with rfl | rfl | rfl | rfl | rfl | rfl | rfl | rfl | rfl | rfl | rfl | rfl | rfl | rfl | rfl | rfl
  all_goals first | exact hs _ (by decide +kernel) | exact ⟨by rw [gp_tup]; simp only [gps, Bool.and_eq_true]; exact ⟨gp_str.mpr ha, trivial⟩, by simp only [wb, wbs]; omega⟩ | exact ⟨by rw [gp_ls]; simp only [gps, Bool.and_eq_true]; exact ⟨gp_str.mpr ha, trivial⟩, by simp only [wb, wbs]; omega⟩ | exact ⟨gp_int.mpr (by decide +kernel), by simp [wb]⟩ | exact ⟨by simp [gp, gps], by simp [wb, wbs]⟩
def OddT (φ : Phi) : Prop := ∀ (t : Tap) (r : Sto), t.Wf → t.calls < 1000000 → Fl r → OkE nX (φ [.loc 0] (tapOb t :: r)) fun d s' => ∃ t' : Tap, (Md (10 ^ 50) 9 2 399 d ∧ tl d ≤ 1) ∧ s' = tapOb t' :: r ∧ t'.Wf ∧ t'.calls = t.calls + 1
end Z

namespace Z
open PySem PySem.Spec L2

/-! ### a thing bent -/
def bBendE (φo : Phi) : Fn Ct := (fRet (fCall φo (fCons (fVar 0) (fNil))))
def bBendD (φo : Phi) : Fn Ct :=
  (fSeq (fIfS (fAndT (fTest (fIsi "str" (fVar 1))) (fTest (fBin gLt (fVar 4) (fC (.int 3))))) (fRet (fBin gIx (fVal (fLst (fCons (fBin gAddB (fVar 1) (fC (.str (Str.ofString "a")))) (fCons (fSl (fVar 1) (fPart (fC (.int 1))) (fNoPart)) (fCons (fUn gUpper (fVar 1)) (fNil)))))) (fVar 4))) (fNop))
  (bBendE φo))
def bBendC (φo : Phi) : Fn Ct :=
  (fSeq (fIfS (fAndT (fTest (fIsi "int" (fVar 1))) (fTest (fBin gLt (fVar 4) (fC (.int 4))))) (fRet (fBin gIx (fVal (fLst (fCons (fBin gAddB (fVar 1) (fC (.int 1))) (fCons (fBin gSubB (fVar 1) (fC (.int 1))) (fCons (fBin gEq (fVar 1) (fC (.int 1))) (fCons (fCall gStrB (fCons (fVar 1) (fNil))) (fNil))))))) (fVar 4))) (fNop))
  (bBendD φo))
def bBendT2 (φo : Phi) : Fn Ct :=
  (fSeq (fIfS (fTest (fBin gLt (fVar 4) (fC (.int 5)))) (fRet (fBin gIx (fVal (fLst (fCons (fVal (fCallL gList (fCons (fVar 1) (fNil)))) (fCons (fBin gAddB (fSl (fVar 1) (fNoPart) (fPart (fVar 3))) (fSl (fVar 1) (fPart (fBin gAddB (fVar 3) (fC (.int 1)))) (fNoPart))) (fCons (fBin gAddB (fBin gAddB (fSl (fVar 1) (fNoPart) (fPart (fVar 3))) (fSl (fVar 1) (fPart (fVar 3)) (fPart (fBin gAddB (fVar 3) (fC (.int 1)))))) (fSl (fVar 1) (fPart (fVar 3)) (fNoPart))) (fCons (fTup (fNil)) (fCons (fRevT (fVar 1)) (fNil)))))))) (fVar 4))) (fNop))
  (bBendE φo))
def bBendT (φt φo : Phi) : Fn Ct :=
  (fSeq (fSet 3 (fCall φt (fCons (fVar 0) (fCons (fBin gAddB (fCall gLen (fCons (fVar 1) (fNil))) (fC (.int 1))) (fNil)))))
  (fSeq (fIfS (fTest (fBin gEq (fVar 4) (fC (.int 3)))) (fRet (fBin gAddB (fBin gAddB (fSl (fVar 1) (fNoPart) (fPart (fVar 3))) (fTup (fCons (fCall φo (fCons (fVar 0) (fNil))) (fNil)))) (fSl (fVar 1) (fPart (fVar 3)) (fNoPart)))) (fNop))
  (bBendT2 φo)))
def bBendB (φt φo : Phi) : Fn Ct :=
  (fSeq (fSet 4 (fCall φt (fCons (fVar 0) (fCons (fC (.int 7)) (fNil)))))
  (fSeq (fIfS (fTest (fIsi "tuple" (fVar 1))) (bBendT φt φo) (fNop))
  (bBendC φo)))
def bBendA (φt ψ : Phi) : Fn Ct :=
  (fSeq (fSet 3 (fCall φt (fCons (fVar 0) (fCons (fCall gLen (fCons (fVar 1) (fNil))) (fNil)))))
  (fRet (fBin gAddB (fBin gAddB (fSl (fVar 1) (fNoPart) (fPart (fVar 3))) (fTup (fCons (fCall ψ (fCons (fVar 0) (fCons (fBin gIx (fVar 1) (fVar 3)) (fCons (fBin gSubB (fVar 2) (fC (.int 1))) (fNil))))) (fNil)))) (fSl (fVar 1) (fPart (fBin gAddB (fVar 3) (fC (.int 1)))) (fNoPart)))))
def bBend (φt φo ψ : Phi) : Fn Ct :=
  fSeq (fIfS (fAndT (fTest (fIsi "tuple" (fVar 1))) (fAndT (fTest (fBin gNe (fVar 1) (fTup (fNil)))) (fAndT (fTest (fBin gGt (fVar 2) (fC (.int 0)))) (fTest (fBin gGt (fCall φt (fCons (fVar 0) (fCons (fC (.int 3)) (fNil)))) (fC (.int 0))))))) (bBendA φt ψ) (fNop))
  (bBendB φt φo)
/-- what is asked of it -/
structure BP (m k n w : Nat) : Prop where
  m50 : 10 ^ 50 ≤ m
  m99 : m < 10 ^ 99
  k0 : 101 ≤ k
  k1 : k ≤ 1300
  n1 : 1 ≤ n
  n2 : n ≤ 30
  w1 : w ≤ 50000
def BQ (l m k n w : Nat) (lo hi : Int) (r : Sto) (d : Dv) (s : Sto) : Prop := ∃ t : Tap, Md (m + 1) (3 * k + 1) (n + 2) (3 * w + 400) d ∧ tl d ≤ 3 * l + 1 ∧ s = tapOb t :: r ∧ t.Wf ∧ lo ≤ t.calls ∧ t.calls ≤ hi
theorem eq_bl1 {b : Bool} {s : Sto} : gEq (.bl b) (.int 1) s = .ok (.bl b) s := by cases b <;> rfl
end Z

namespace Z
open PySem PySem.Spec L2

/-! ### a tuple bent -/
end Z

namespace Z
open PySem PySem.Spec L2

/-! ### a thing bent, by levels -/
def BendS (j : Nat) (φ : Phi) : Prop := ∀ (l m k n w : Nat) (t : Tap) (r : Sto) (d : Dv) (deep : Int), BP m k n w → t.Wf → t.calls + 5 * j < 1000000 → Fl r → 0 ≤ deep → deep < j → Md m k n w d → tl d ≤ l →
  OkE nX (φ [.loc 0, d, .int deep] (tapOb t :: r)) (BQ l m k n w t.calls (t.calls + 5 * j) r)
end Z

namespace Z
open PySem PySem.Spec L2

/-! ### neighbours in a sorted list -/
/-! ### lots and tallies of any things -/
def isTallyD (n : Nat) : Dv → Bool
  | .tup ds => decide (ds.length = n) && ds.all isFromD
  | _ => false
def areWordsD : Dv → Bool
  | .tup ds => ds.all isWordD
  | _ => false
def isLotsD : Dv → Bool
  | .tup ds => ds.all isWordD && (decide (1 < ds.length) && (match strs? ds with | some zs => decide zs.Nodup | none => false))
  | _ => false
theorem words_dec : ∀ {ds : List Dv}, ds.all isWordD = true → ∃ zs : List Str, ds = zs.map .str
  | [], _ => ⟨[], rfl⟩
  | d :: r, h => by
    rw [List.all_cons, Bool.and_eq_true] at h
    obtain ⟨zs, e⟩ := words_dec h.2
    cases d with
    | str z => exact ⟨z :: zs, by rw [e]; rfl⟩
    | _ => exact absurd h.1 (by simp [isWordD])
theorem words_notT {d : Dv} (h : isTupD d = false) : areWordsD d = false ∧ isLotsD d = false ∧ ∀ n, isTallyD n d = false := by
  cases d with
  | tup => cases h
  | _ => exact ⟨rfl, rfl, fun _ => rfl⟩
def bWords (φw : Phi) : Fn Ct := fRet (fAnd (fIsi "tuple" (fVar 0)) (fCall gAll (fCons (fVal (fLc (fSrc (fVar 0)) [1] (gNm 1) (fYes) (fCall φw (fCons (fVar 1) (fNil))))) (fNil))))
theorem words_spec {φw : Phi} (hw : ThS φw isWordD) : ThS (fDef 1 2 (bWords φw)) areWordsD := by
  intro d s T h hT
  rw [ok_def]
  refine ⟨rfl, ?_⟩
  unfold bWords
  simp only [Y1,Qf,Qt,Qu,Qa,Qg,Qv,Qw,Qx,Qy,Qh,Qz,Jy,Qi,Qb,Qj,Qk,Q0,Jz,Q1,Q2,J0,Q3,Q4,J1,Ql,Qm,Qn,Q5,Qo,Q6,Qp,Q7,Q8,J2,Q9,Ja,J3,J4,J5,Jb,J6,J7,Jc,J8,J9,Jd,Je,Ya,Jf,Yb,Jg,Jh,Y8,Yc,Ji,Yd,Ye,Yf,Yg,Yh,Y2,Jj,Qq,Jk,Yi,Jl,Jm,Yj,Y3,Yk,Yl,Y4,Ym,Y5,Yn,Qc,Yo,Jn,Yp,Yq,Y6,Yr,Qd,Jo,Jp,Y7,Ys,Yt,Yu,Yv,Yw,Yx,Jq,Jr,Qr,Js,Yy,Qe,Qs,List.set_cons_zero,List.set_cons_succ,List.map_cons,List.map_nil,List.replicate,List.cons_append,List.nil_append,List.length_cons,List.length_nil,Bool.false_eq_true,eq_self,if_true,if_false,Nat.zero_add,Jt,Yz,Ju,Jv,Jw,Y0,Jx,true_and,ok_isi,kIsi_ap]
  refine ⟨h.okX, ?_⟩
  rw [ty_tup h.g]
  cases e : isTupD d with
  | false =>
    rw [(words_notT e).1] at hT
    simp only [Y1,Qf,Qt,Qu,Qa,Qg,Qv,Qw,Qx,Qy,Qh,Qz,Jy,Qi,Qb,Qj,Qk,Q0,Jz,Q1,Q2,J0,Q3,Q4,J1,Ql,Qm,Qn,Q5,Qo,Q6,Qp,Q7,Q8,J2,Q9,Ja,J3,J4,J5,Jb,J6,J7,Jc,J8,J9,Jd,Je,Ya,Jf,Yb,Jg,Jh,Y8,Yc,Ji,Yd,Ye,Yf,Yg,Yh,Y2,Jj,Qq,Jk,Yi,Jl,Jm,Yj,Y3,Yk,Yl,Y4,Ym,Y5,Yn,Qc,Yo,Jn,Yp,Yq,Y6,Yr,Qd,Jo,Jp,Y7,Ys,Yt,Yu,Yv,Yw,Yx,Jq,Jr,Qr,Js,Yy,Qe,Qs,List.set_cons_zero,List.set_cons_succ,List.map_cons,List.map_nil,List.replicate,List.cons_append,List.nil_append,List.length_cons,List.length_nil,Bool.false_eq_true,eq_self,if_true,if_false,Nat.zero_add,Jt,Yz,Ju,Jv,Jw,Y0,Jx,true_and]
    exact fin_any (fun n => nofun) hT
  | true =>
    obtain ⟨ds, rfl⟩ : ∃ ds, d = .tup ds := by
      cases d with
      | tup ds => exact ⟨ds, rfl⟩
      | _ => cases e
    obtain ⟨g, gw, gl⟩ := h.tup
    simp only [Y1,Qf,Qt,Qu,Qa,Qg,Qv,Qw,Qx,Qy,Qh,Qz,Jy,Qi,Qb,Qj,Qk,Q0,Jz,Q1,Q2,J0,Q3,Q4,J1,Ql,Qm,Qn,Q5,Qo,Q6,Qp,Q7,Q8,J2,Q9,Ja,J3,J4,J5,Jb,J6,J7,Jc,J8,J9,Jd,Je,Ya,Jf,Yb,Jg,Jh,Y8,Yc,Ji,Yd,Ye,Yf,Yg,Yh,Y2,Jj,Qq,Jk,Yi,Jl,Jm,Yj,Y3,Yk,Yl,Y4,Ym,Y5,Yn,Qc,Yo,Jn,Yp,Yq,Y6,Yr,Qd,Jo,Jp,Y7,Ys,Yt,Yu,Yv,Yw,Yx,Jq,Jr,Qr,Js,Yy,Qe,Qs,List.set_cons_zero,List.set_cons_succ,List.map_cons,List.map_nil,List.replicate,List.cons_append,List.nil_append,List.length_cons,List.length_nil,Bool.false_eq_true,eq_self,if_true,if_false,Nat.zero_add,Jt,Yz,Ju,Jv,Jw,Y0,Jx,true_and]
    refine ⟨decide_eq_true (by omega), ?_⟩
    refine ok_map (fun _ => true) (fun d => .bl (isWordD d)) (fun d hd => ?_) ?_
    · simp only [Y1,Qf,Qt,Qu,Qa,Qg,Qv,Qw,Qx,Qy,Qh,Qz,Jy,Qi,Qb,Qj,Qk,Q0,Jz,Q1,Q2,J0,Q3,Q4,J1,Ql,Qm,Qn,Q5,Qo,Q6,Qp,Q7,Q8,J2,Q9,Ja,J3,J4,J5,Jb,J6,J7,Jc,J8,J9,Jd,Je,Ya,Jf,Yb,Jg,Jh,Y8,Yc,Ji,Yd,Ye,Yf,Yg,Yh,Y2,Jj,Qq,Jk,Yi,Jl,Jm,Yj,Y3,Yk,Yl,Y4,Ym,Y5,Yn,Qc,Yo,Jn,Yp,Yq,Y6,Yr,Qd,Jo,Jp,Y7,Ys,Yt,Yu,Yv,Yw,Yx,Jq,Jr,Qr,Js,Yy,Qe,Qs,List.set_cons_zero,List.set_cons_succ,List.map_cons,List.map_nil,List.replicate,List.cons_append,List.nil_append,List.length_cons,List.length_nil,Bool.false_eq_true,eq_self,if_true,if_false,Nat.zero_add,Jt,Yz,Ju,Jv,Jw,Y0,Jx,true_and,wipeZ]
      exact hw d s _ (.of g gw hd) ⟨rfl, rfl⟩
    rw [filter_yes]
    simp only [Y1,Qf,Qt,Qu,Qa,Qg,Qv,Qw,Qx,Qy,Qh,Qz,Jy,Qi,Qb,Qj,Qk,Q0,Jz,Q1,Q2,J0,Q3,Q4,J1,Ql,Qm,Qn,Q5,Qo,Q6,Qp,Q7,Q8,J2,Q9,Ja,J3,J4,J5,Jb,J6,J7,Jc,J8,J9,Jd,Je,Ya,Jf,Yb,Jg,Jh,Y8,Yc,Ji,Yd,Ye,Yf,Yg,Yh,Y2,Jj,Qq,Jk,Yi,Jl,Jm,Yj,Y3,Yk,Yl,Y4,Ym,Y5,Yn,Qc,Yo,Jn,Yp,Yq,Y6,Yr,Qd,Jo,Jp,Y7,Ys,Yt,Yu,Yv,Yw,Yx,Jq,Jr,Qr,Js,Yy,Qe,Qs,List.set_cons_zero,List.set_cons_succ,List.map_cons,List.map_nil,List.replicate,List.cons_append,List.nil_append,List.length_cons,List.length_nil,Bool.false_eq_true,eq_self,if_true,if_false,Nat.zero_add,Jt,Yz,Ju,Jv,Jw,Y0,Jx,true_and,all_map]
    exact fin_any (fun n => nofun) hT
/-- as ThS, of things that hold few -/
def ThL (φ : Phi) (p : Dv → Bool) : Prop := ∀ (d : Dv) (s : Sto) (T : Dv → Sto → Prop), Thg d → tl d ≤ 4000 → T (.bl (p d)) s → OkE nX (φ [d] s) T
def bIsLots (φa : Phi) : Fn Ct := fRet (fAnd (fCall φa (fCons (fVar 0) (fNil))) (fAnd (fBin gGt (fCall gLen (fCons (fVar 0) (fNil))) (fC (.int 1))) (fBin gEq (fLenSet (fVar 0)) (fCall gLen (fCons (fVar 0) (fNil))))))
theorem isLots_spec {φa : Phi} (ha : ThS φa areWordsD) : ThL (fDef 1 1 (bIsLots φa)) isLotsD := by
  intro d s T h hl hT
  rw [ok_def]
  refine ⟨rfl, ?_⟩
  unfold bIsLots
  simp only [Y1,Qf,Qt,Qu,Qa,Qg,Qv,Qw,Qx,Qy,Qh,Qz,Jy,Qi,Qb,Qj,Qk,Q0,Jz,Q1,Q2,J0,Q3,Q4,J1,Ql,Qm,Qn,Q5,Qo,Q6,Qp,Q7,Q8,J2,Q9,Ja,J3,J4,J5,Jb,J6,J7,Jc,J8,J9,Jd,Je,Ya,Jf,Yb,Jg,Jh,Y8,Yc,Ji,Yd,Ye,Yf,Yg,Yh,Y2,Jj,Qq,Jk,Yi,Jl,Jm,Yj,Y3,Yk,Yl,Y4,Ym,Y5,Yn,Qc,Yo,Jn,Yp,Yq,Y6,Yr,Qd,Jo,Jp,Y7,Ys,Yt,Yu,Yv,Yw,Yx,Jq,Jr,Qr,Js,Yy,Qe,Qs,List.set_cons_zero,List.set_cons_succ,List.map_cons,List.map_nil,List.replicate,List.cons_append,List.nil_append,List.length_cons,List.length_nil,Bool.false_eq_true,eq_self,if_true,if_false,Nat.zero_add,Jt,Yz,Ju,Jv,Jw,Y0,Jx,true_and]
  refine ha d s _ h ?_
  cases e : isTupD d with
  | false =>
    rw [(words_notT e).2.1] at hT
    rw [(words_notT e).1]
    simp only [Y1,Qf,Qt,Qu,Qa,Qg,Qv,Qw,Qx,Qy,Qh,Qz,Jy,Qi,Qb,Qj,Qk,Q0,Jz,Q1,Q2,J0,Q3,Q4,J1,Ql,Qm,Qn,Q5,Qo,Q6,Qp,Q7,Q8,J2,Q9,Ja,J3,J4,J5,Jb,J6,J7,Jc,J8,J9,Jd,Je,Ya,Jf,Yb,Jg,Jh,Y8,Yc,Ji,Yd,Ye,Yf,Yg,Yh,Y2,Jj,Qq,Jk,Yi,Jl,Jm,Yj,Y3,Yk,Yl,Y4,Ym,Y5,Yn,Qc,Yo,Jn,Yp,Yq,Y6,Yr,Qd,Jo,Jp,Y7,Ys,Yt,Yu,Yv,Yw,Yx,Jq,Jr,Qr,Js,Yy,Qe,Qs,List.set_cons_zero,List.set_cons_succ,List.map_cons,List.map_nil,List.replicate,List.cons_append,List.nil_append,List.length_cons,List.length_nil,Bool.false_eq_true,eq_self,if_true,if_false,Nat.zero_add,Jt,Yz,Ju,Jv,Jw,Y0,Jx,true_and]
    exact fin_any (fun n => nofun) hT
  | true =>
    obtain ⟨ds, rfl⟩ : ∃ ds, d = .tup ds := by
      cases d with
      | tup ds => exact ⟨ds, rfl⟩
      | _ => cases e
    rw [show areWordsD (.tup ds) = ds.all isWordD from rfl]
    have hT : T (.bl (ds.all isWordD && (decide (1 < ds.length) && (match strs? ds with | some zs => decide zs.Nodup | none => false)))) s := hT
    cases e1 : ds.all isWordD with
    | false =>
      rw [e1] at hT
      simp only [Y1,Qf,Qt,Qu,Qa,Qg,Qv,Qw,Qx,Qy,Qh,Qz,Jy,Qi,Qb,Qj,Qk,Q0,Jz,Q1,Q2,J0,Q3,Q4,J1,Ql,Qm,Qn,Q5,Qo,Q6,Qp,Q7,Q8,J2,Q9,Ja,J3,J4,J5,Jb,J6,J7,Jc,J8,J9,Jd,Je,Ya,Jf,Yb,Jg,Jh,Y8,Yc,Ji,Yd,Ye,Yf,Yg,Yh,Y2,Jj,Qq,Jk,Yi,Jl,Jm,Yj,Y3,Yk,Yl,Y4,Ym,Y5,Yn,Qc,Yo,Jn,Yp,Yq,Y6,Yr,Qd,Jo,Jp,Y7,Ys,Yt,Yu,Yv,Yw,Yx,Jq,Jr,Qr,Js,Yy,Qe,Qs,List.set_cons_zero,List.set_cons_succ,List.map_cons,List.map_nil,List.replicate,List.cons_append,List.nil_append,List.length_cons,List.length_nil,Bool.false_eq_true,eq_self,if_true,if_false,Nat.zero_add,Jt,Yz,Ju,Jv,Jw,Y0,Jx,true_and]
      exact fin_any (fun n => nofun) hT
    | true =>
      rw [e1] at hT
      obtain ⟨zs, rfl⟩ := words_dec e1
      have hl : zs.length ≤ 4000 := by
        have : (zs.map Dv.str).length ≤ 4000 := hl
        rwa [List.length_map] at this
      rw [strs?_map, List.length_map] at hT
      have hT : T (.bl (true && (decide (1 < zs.length) && decide zs.Nodup))) s := hT
      simp only [Y1,Qf,Qt,Qu,Qa,Qg,Qv,Qw,Qx,Qy,Qh,Qz,Jy,Qi,Qb,Qj,Qk,Q0,Jz,Q1,Q2,J0,Q3,Q4,J1,Ql,Qm,Qn,Q5,Qo,Q6,Qp,Q7,Q8,J2,Q9,Ja,J3,J4,J5,Jb,J6,J7,Jc,J8,J9,Jd,Je,Ya,Jf,Yb,Jg,Jh,Y8,Yc,Ji,Yd,Ye,Yf,Yg,Yh,Y2,Jj,Qq,Jk,Yi,Jl,Jm,Yj,Y3,Yk,Yl,Y4,Ym,Y5,Yn,Qc,Yo,Jn,Yp,Yq,Y6,Yr,Qd,Jo,Jp,Y7,Ys,Yt,Yu,Yv,Yw,Yx,Jq,Jr,Qr,Js,Yy,Qe,Qs,List.set_cons_zero,List.set_cons_succ,List.map_cons,List.map_nil,List.replicate,List.cons_append,List.nil_append,List.length_cons,List.length_nil,Bool.false_eq_true,eq_self,if_true,if_false,Nat.zero_add,Jt,Yz,Ju,Jv,Jw,Y0,Jx,true_and,len_tup,gt_int,List.length_map]
      by_cases h1 : 1 < zs.length
      · rw [decide_eq_true (show (1 : Int) < zs.length by omega)]
        rw [decide_eq_true h1] at hT
        simp only [Y1,Qf,Qt,Qu,Qa,Qg,Qv,Qw,Qx,Qy,Qh,Qz,Jy,Qi,Qb,Qj,Qk,Q0,Jz,Q1,Q2,J0,Q3,Q4,J1,Ql,Qm,Qn,Q5,Qo,Q6,Qp,Q7,Q8,J2,Q9,Ja,J3,J4,J5,Jb,J6,J7,Jc,J8,J9,Jd,Je,Ya,Jf,Yb,Jg,Jh,Y8,Yc,Ji,Yd,Ye,Yf,Yg,Yh,Y2,Jj,Qq,Jk,Yi,Jl,Jm,Yj,Y3,Yk,Yl,Y4,Ym,Y5,Yn,Qc,Yo,Jn,Yp,Yq,Y6,Yr,Qd,Jo,Jp,Y7,Ys,Yt,Yu,Yv,Yw,Yx,Jq,Jr,Qr,Js,Yy,Qe,Qs,List.set_cons_zero,List.set_cons_succ,List.map_cons,List.map_nil,List.replicate,List.cons_append,List.nil_append,List.length_cons,List.length_nil,Bool.false_eq_true,eq_self,if_true,if_false,Nat.zero_add,Jt,Yz,Ju,Jv,Jw,Y0,Jx,true_and,ok_lenSet]
        refine kLenSet_tup hl ?_
        simp only [Y1,Qf,Qt,Qu,Qa,Qg,Qv,Qw,Qx,Qy,Qh,Qz,Jy,Qi,Qb,Qj,Qk,Q0,Jz,Q1,Q2,J0,Q3,Q4,J1,Ql,Qm,Qn,Q5,Qo,Q6,Qp,Q7,Q8,J2,Q9,Ja,J3,J4,J5,Jb,J6,J7,Jc,J8,J9,Jd,Je,Ya,Jf,Yb,Jg,Jh,Y8,Yc,Ji,Yd,Ye,Yf,Yg,Yh,Y2,Jj,Qq,Jk,Yi,Jl,Jm,Yj,Y3,Yk,Yl,Y4,Ym,Y5,Yn,Qc,Yo,Jn,Yp,Yq,Y6,Yr,Qd,Jo,Jp,Y7,Ys,Yt,Yu,Yv,Yw,Yx,Jq,Jr,Qr,Js,Yy,Qe,Qs,List.set_cons_zero,List.set_cons_succ,List.map_cons,List.map_nil,List.replicate,List.cons_append,List.nil_append,List.length_cons,List.length_nil,Bool.false_eq_true,eq_self,if_true,if_false,Nat.zero_add,Jt,Yz,Ju,Jv,Jw,Y0,Jx,true_and,len_tup,eq_int,List.length_map]
        refine fin_any (fun n => nofun) ?_
        have hd := dst_nodup zs
        by_cases hn : zs.Nodup
        · rw [show (((dst zs).length : Int) == (zs.length : Int)) = true by rw [beq_iff_eq, hd.mpr hn]]
          rw [decide_eq_true hn] at hT
          exact hT
        · rw [show (((dst zs).length : Int) == (zs.length : Int)) = false by
            rw [beq_eq_false_iff_ne]
            intro e
            exact hn (hd.mp (by omega))]
          rw [decide_eq_false hn] at hT
          exact hT
      · rw [decide_eq_false (show ¬ (1 : Int) < zs.length by omega)]
        rw [decide_eq_false h1] at hT
        simp only [Y1,Qf,Qt,Qu,Qa,Qg,Qv,Qw,Qx,Qy,Qh,Qz,Jy,Qi,Qb,Qj,Qk,Q0,Jz,Q1,Q2,J0,Q3,Q4,J1,Ql,Qm,Qn,Q5,Qo,Q6,Qp,Q7,Q8,J2,Q9,Ja,J3,J4,J5,Jb,J6,J7,Jc,J8,J9,Jd,Je,Ya,Jf,Yb,Jg,Jh,Y8,Yc,Ji,Yd,Ye,Yf,Yg,Yh,Y2,Jj,Qq,Jk,Yi,Jl,Jm,Yj,Y3,Yk,Yl,Y4,Ym,Y5,Yn,Qc,Yo,Jn,Yp,Yq,Y6,Yr,Qd,Jo,Jp,Y7,Ys,Yt,Yu,Yv,Yw,Yx,Jq,Jr,Qr,Js,Yy,Qe,Qs,List.set_cons_zero,List.set_cons_succ,List.map_cons,List.map_nil,List.replicate,List.cons_append,List.nil_append,List.length_cons,List.length_nil,Bool.false_eq_true,eq_self,if_true,if_false,Nat.zero_add,Jt,Yz,Ju,Jv,Jw,Y0,Jx,true_and]
        exact fin_any (fun n => nofun) hT
end Z

namespace Z
open PySem PySem.Spec L2

/-! ### the longest tuple in a thing (lists are not looked into) -/
mutual
def tn : Dv → Nat
  | .tup ds => max ds.length (tns ds)
  | _ => 0
def tns : List Dv → Nat
  | [] => 0
  | d :: r => max (tn d) (tns r)
end
theorem tns_le {L : Nat} : ∀ {ds : List Dv}, tns ds ≤ L ↔ ∀ e ∈ ds, tn e ≤ L
  | [] => by simp [tns]
  | d :: r => by
    simp only [tns, Nat.max_le, List.mem_cons, forall_eq_or_imp, tns_le (ds := r)]
theorem tn_tup {L : Nat} {ds : List Dv} : tn (.tup ds) ≤ L ↔ ds.length ≤ L ∧ ∀ e ∈ ds, tn e ≤ L := by
  simp only [tn, Nat.max_le, tns_le]
theorem tnU {l : Nat} {ds es : List Dv} (h : tn (.tup ds) ≤ l) (hm : ∀ e ∈ es, e ∈ ds) (hl : es.length ≤ 3 * l + 1) : tn (.tup es) ≤ 3 * l + 1 :=
  tn_tup.mpr ⟨hl, fun e he => by have := (tn_tup.mp h).2 e (hm e he); omega⟩
theorem oddTs_tn : ∀ e ∈ oddTs, tn e ≤ 1 := by
  intro e he
  unfold oddTs at he
  simp only [List.mem_cons, List.not_mem_nil, or_false] at he
  rcases he with rfl | rfl | rfl | rfl | rfl | rfl | rfl | rfl | rfl | rfl | rfl | rfl | rfl | rfl | rfl | rfl
  all_goals simp [tn, tns]
def OddTN (φ : Phi) : Prop := ∀ (t : Tap) (r : Sto), t.Wf → t.calls < 1000000 → Fl r → OkE nX (φ [.loc 0] (tapOb t :: r)) fun d s' => ∃ t' : Tap, (Md (10 ^ 50) 9 2 399 d ∧ tn d ≤ 1) ∧ s' = tapOb t' :: r ∧ t'.Wf ∧ t'.calls = t.calls + 1
theorem oddTN_spec {φt : Phi} (hT : TakeS φt) : OddTN (fDef 1 2 (bOddT φt)) := by
  intro t r hw hc hf
  rw [ok_def]
  refine ⟨rfl, ?_⟩
  unfold bOddT
  have ep : ∀ s : Sto, gPow (.int 10) (.int 50) s = .ok (.int (10 ^ 50)) s := fun s => pow_ok (by decide) (by decide)
  simp only [Y1,Qf,Qt,Qu,Qa,Qg,Qv,Qw,Qx,Qy,Qh,Qz,Jy,Qi,Qb,Qj,Qk,Q0,Jz,Q1,Q2,J0,Q3,Q4,J1,Ql,Qm,Qn,Q5,Qo,Q6,Qp,Q7,Q8,J2,Q9,Ja,J3,J4,J5,Jb,J6,J7,Jc,J8,J9,Jd,Je,Ya,Jf,Yb,Jg,Jh,Y8,Yc,Ji,Yd,Ye,Yf,Yg,Yh,Y2,Jj,Qq,Jk,Yi,Jl,Jm,Yj,Y3,Yk,Yl,Y4,Ym,Y5,Yn,Qc,Yo,Jn,Yp,Yq,Y6,Yr,Qd,Jo,Jp,Y7,Ys,Yt,Yu,Yv,Yw,Yx,Jq,Jr,Qr,Js,Yy,Qe,Qs,List.set_cons_zero,List.set_cons_succ,List.map_cons,List.map_nil,List.replicate,List.cons_append,List.nil_append,List.length_cons,List.length_nil,Bool.false_eq_true,eq_self,if_true,if_false,Nat.zero_add,Jt,Yz,Ju,Jv,Jw,Y0,Jx,true_and,neg_intD,ep]
  refine ⟨rfl, rfl, rfl, rfl, rfl, ?_⟩
  refine (hT t r 16 hw hc (by decide) (by decide) hf).mono ?_
  rintro d' s ⟨x, t2, rfl, hx0, hx1, rfl, hw2, hc2⟩
  obtain ⟨e, he, hP⟩ := pickP (P := fun e => Md (10 ^ 50) 9 2 399 e ∧ tn e ≤ 1) (fun e he => ⟨oddTs_ok e he, oddTs_tn e he⟩) hx0 (show x < (oddTs.length : Int) from hx1)
  have he := he (tapOb t2 :: r)
  unfold oddTs at he
  simp only [Y1,Qf,Qt,Qu,Qa,Qg,Qv,Qw,Qx,Qy,Qh,Qz,Jy,Qi,Qb,Qj,Qk,Q0,Jz,Q1,Q2,J0,Q3,Q4,J1,Ql,Qm,Qn,Q5,Qo,Q6,Qp,Q7,Q8,J2,Q9,Ja,J3,J4,J5,Jb,J6,J7,Jc,J8,J9,Jd,Je,Ya,Jf,Yb,Jg,Jh,Y8,Yc,Ji,Yd,Ye,Yf,Yg,Yh,Y2,Jj,Qq,Jk,Yi,Jl,Jm,Yj,Y3,Yk,Yl,Y4,Ym,Y5,Yn,Qc,Yo,Jn,Yp,Yq,Y6,Yr,Qd,Jo,Jp,Y7,Ys,Yt,Yu,Yv,Yw,Yx,Jq,Jr,Qr,Js,Yy,Qe,Qs,List.set_cons_zero,List.set_cons_succ,List.map_cons,List.map_nil,List.replicate,List.cons_append,List.nil_append,List.length_cons,List.length_nil,Bool.false_eq_true,eq_self,if_true,if_false,Nat.zero_add,Jt,Yz,Ju,Jv,Jw,Y0,Jx,true_and]
  rw [he, Y1]
  simp only [Y1,Qf,Qt,Qu,Qa,Qg,Qv,Qw,Qx,Qy,Qh,Qz,Jy,Qi,Qb,Qj,Qk,Q0,Jz,Q1,Q2,J0,Q3,Q4,J1,Ql,Qm,Qn,Q5,Qo,Q6,Qp,Q7,Q8,J2,Q9,Ja,J3,J4,J5,Jb,J6,J7,Jc,J8,J9,Jd,Je,Ya,Jf,Yb,Jg,Jh,Y8,Yc,Ji,Yd,Ye,Yf,Yg,Yh,Y2,Jj,Qq,Jk,Yi,Jl,Jm,Yj,Y3,Yk,Yl,Y4,Ym,Y5,Yn,Qc,Yo,Jn,Yp,Yq,Y6,Yr,Qd,Jo,Jp,Y7,Ys,Yt,Yu,Yv,Yw,Yx,Jq,Jr,Qr,Js,Yy,Qe,Qs,List.set_cons_zero,List.set_cons_succ,List.map_cons,List.map_nil,List.replicate,List.cons_append,List.nil_append,List.length_cons,List.length_nil,Bool.false_eq_true,eq_self,if_true,if_false,Nat.zero_add,Jt,Yz,Ju,Jv,Jw,Y0,Jx,true_and]
  exact fin_tap0 hf (gp_below (by decide +kernel) (by decide) 0 hP.1.g) ⟨t2, hP, rfl, hw2, hc2⟩
end Z

namespace Z
open PySem PySem.Spec L2

/-! ### a thing bent, all tuples in it bounded -/
def BQN (l m k n w : Nat) (lo hi : Int) (r : Sto) (d : Dv) (s : Sto) : Prop := ∃ t : Tap, Md (m + 1) (3 * k + 1) (n + 2) (3 * w + 400) d ∧ tn d ≤ 3 * l + 1 ∧ s = tapOb t :: r ∧ t.Wf ∧ lo ≤ t.calls ∧ t.calls ≤ hi
theorem bfinN {l m k n w : Nat} (P : BP m k n w) {lo hi : Int} {r : Sto} (hf : Fl r) {t : Tap} {d : Dv} (hd : Md (m + 1) (3 * k + 1) (n + 2) (3 * w + 400) d) (hl : tn d ≤ 3 * l + 1) (hw : t.Wf) (h1 : lo ≤ t.calls) (h2 : t.calls ≤ hi) : OkE nX (gcZ (r.length + 1) d (tapOb t :: r)) (BQN l m k n w lo hi r) := by
  have p1 := P.m99
  have p2 := P.k1
  exact fin_tap0 hf (gp_below (Nat.lt_of_le_of_lt p1 (by decide +kernel)) (by omega) 0 hd.g) ⟨t, hd, hl, rfl, hw, h1, h2⟩
theorem bendEN {φo : Phi} {b : Fn Ct} (hb : b = bBendE φo) (hO : OddTN φo) {l m k n w : Nat} (P : BP m k n w) {lo hi : Int} {r : Sto} (hf : Fl r) {t : Tap} (hw : t.Wf) (hc : t.calls < 1000000) (h1 : lo ≤ t.calls) (h2 : t.calls + 1 ≤ hi) {v1 v2 v3 v4 : Option Dv} {R : Ct → Sto → Prop} (hR : ∀ (d : Dv) (s : Sto), OkE nX (gcZ (r.length + 1) d s) (BQN l m k n w lo hi r) → R (.ret d) s) :
    OkE nX (b [some (.loc 0), v1, v2, v3, v4] (tapOb t :: r)) R := by
  subst hb
  unfold bBendE
  simp only [Y1,Qf,Qt,Qu,Qa,Qg,Qv,Qw,Qx,Qy,Qh,Qz,Jy,Qi,Qb,Qj,Qk,Q0,Jz,Q1,Q2,J0,Q3,Q4,J1,Ql,Qm,Qn,Q5,Qo,Q6,Qp,Q7,Q8,J2,Q9,Ja,J3,J4,J5,Jb,J6,J7,Jc,J8,J9,Jd,Je,Ya,Jf,Yb,Jg,Jh,Y8,Yc,Ji,Yd,Ye,Yf,Yg,Yh,Y2,Jj,Qq,Jk,Yi,Jl,Jm,Yj,Y3,Yk,Yl,Y4,Ym,Y5,Yn,Qc,Yo,Jn,Yp,Yq,Y6,Yr,Qd,Jo,Jp,Y7,Ys,Yt,Yu,Yv,Yw,Yx,Jq,Jr,Qr,Js,Yy,Qe,Qs,List.set_cons_zero,List.set_cons_succ,List.map_cons,List.map_nil,List.replicate,List.cons_append,List.nil_append,List.length_cons,List.length_nil,Bool.false_eq_true,eq_self,if_true,if_false,Nat.zero_add,Jt,Yz,Ju,Jv,Jw,Y0,Jx,true_and]
  refine (hO t r hw hc hf).mono ?_
  rintro d' s ⟨t2, ⟨hd, hl⟩, rfl, hw2, hc2⟩
  have := P.m50
  have := P.k0
  have := P.n1
  simp only [Y1,Qf,Qt,Qu,Qa,Qg,Qv,Qw,Qx,Qy,Qh,Qz,Jy,Qi,Qb,Qj,Qk,Q0,Jz,Q1,Q2,J0,Q3,Q4,J1,Ql,Qm,Qn,Q5,Qo,Q6,Qp,Q7,Q8,J2,Q9,Ja,J3,J4,J5,Jb,J6,J7,Jc,J8,J9,Jd,Je,Ya,Jf,Yb,Jg,Jh,Y8,Yc,Ji,Yd,Ye,Yf,Yg,Yh,Y2,Jj,Qq,Jk,Yi,Jl,Jm,Yj,Y3,Yk,Yl,Y4,Ym,Y5,Yn,Qc,Yo,Jn,Yp,Yq,Y6,Yr,Qd,Jo,Jp,Y7,Ys,Yt,Yu,Yv,Yw,Yx,Jq,Jr,Qr,Js,Yy,Qe,Qs,List.set_cons_zero,List.set_cons_succ,List.map_cons,List.map_nil,List.replicate,List.cons_append,List.nil_append,List.length_cons,List.length_nil,Bool.false_eq_true,eq_self,if_true,if_false,Nat.zero_add,Jt,Yz,Ju,Jv,Jw,Y0,Jx,true_and]
  exact hR _ _ (bfinN P hf (hd.up (by omega) (by omega) (by omega) (by omega)) (by omega) hw2 (by omega) (by omega))
theorem bendDN {φo : Phi} {b : Fn Ct} (hb : b = bBendD φo) (hO : OddTN φo) {l m k n w : Nat} (P : BP m k n w) {lo hi : Int} {r : Sto} (hf : Fl r) {t : Tap} (hw : t.Wf) (hc : t.calls < 1000000) (h1 : lo ≤ t.calls) (h2 : t.calls + 1 ≤ hi) {d : Dv} (hd : Md m k n w d) {x : Int} (hx0 : 0 ≤ x) {v2 v3 : Option Dv} :
    OkE nX (b [some (.loc 0), some d, v2, v3, some (.int x)] (tapOb t :: r)) (finK nX (r.length + 1) (BQN l m k n w lo hi r)) := by
  subst hb
  have p1 := P.m50
  have p2 := P.m99
  have p3 := P.k0
  have p4 := P.k1
  have p5 := P.n1
  have p6 := P.w1
  have hg : gb n d = true := gp_gb (Nat.lt_of_lt_of_le p2 (by decide +kernel)) (by omega) hd.g
  unfold bBendD
  obtain ⟨bE, hbE⟩ : ∃ b : Fn Ct, b = bBendE φo := ⟨_, rfl⟩
  rw [← hbE]
  simp only [Y1,Qf,Qt,Qu,Qa,Qg,Qv,Qw,Qx,Qy,Qh,Qz,Jy,Qi,Qb,Qj,Qk,Q0,Jz,Q1,Q2,J0,Q3,Q4,J1,Ql,Qm,Qn,Q5,Qo,Q6,Qp,Q7,Q8,J2,Q9,Ja,J3,J4,J5,Jb,J6,J7,Jc,J8,J9,Jd,Je,Ya,Jf,Yb,Jg,Jh,Y8,Yc,Ji,Yd,Ye,Yf,Yg,Yh,Y2,Jj,Qq,Jk,Yi,Jl,Jm,Yj,Y3,Yk,Yl,Y4,Ym,Y5,Yn,Qc,Yo,Jn,Yp,Yq,Y6,Yr,Qd,Jo,Jp,Y7,Ys,Yt,Yu,Yv,Yw,Yx,Jq,Jr,Qr,Js,Yy,Qe,Qs,List.set_cons_zero,List.set_cons_succ,List.map_cons,List.map_nil,List.replicate,List.cons_append,List.nil_append,List.length_cons,List.length_nil,Bool.false_eq_true,eq_self,if_true,if_false,Nat.zero_add,Jt,Yz,Ju,Jv,Jw,Y0,Jx,true_and,ok_isi,kIsi_ap]
  refine ⟨gb_okX hg, ?_⟩
  rw [ty_str hg]
  cases e : isStrD d with
  | false =>
    simp only [Y1,Qf,Qt,Qu,Qa,Qg,Qv,Qw,Qx,Qy,Qh,Qz,Jy,Qi,Qb,Qj,Qk,Q0,Jz,Q1,Q2,J0,Q3,Q4,J1,Ql,Qm,Qn,Q5,Qo,Q6,Qp,Q7,Q8,J2,Q9,Ja,J3,J4,J5,Jb,J6,J7,Jc,J8,J9,Jd,Je,Ya,Jf,Yb,Jg,Jh,Y8,Yc,Ji,Yd,Ye,Yf,Yg,Yh,Y2,Jj,Qq,Jk,Yi,Jl,Jm,Yj,Y3,Yk,Yl,Y4,Ym,Y5,Yn,Qc,Yo,Jn,Yp,Yq,Y6,Yr,Qd,Jo,Jp,Y7,Ys,Yt,Yu,Yv,Yw,Yx,Jq,Jr,Qr,Js,Yy,Qe,Qs,List.set_cons_zero,List.set_cons_succ,List.map_cons,List.map_nil,List.replicate,List.cons_append,List.nil_append,List.length_cons,List.length_nil,Bool.false_eq_true,eq_self,if_true,if_false,Nat.zero_add,Jt,Yz,Ju,Jv,Jw,Y0,Jx,true_and]
    exact bendEN hbE hO P hf hw hc h1 h2 fun _ _ h => h
  | true =>
    obtain ⟨z, rfl⟩ : ∃ z, d = .str z := by
      cases d with
      | str z => exact ⟨z, rfl⟩
      | _ => cases e
    simp only [Y1,Qf,Qt,Qu,Qa,Qg,Qv,Qw,Qx,Qy,Qh,Qz,Jy,Qi,Qb,Qj,Qk,Q0,Jz,Q1,Q2,J0,Q3,Q4,J1,Ql,Qm,Qn,Q5,Qo,Q6,Qp,Q7,Q8,J2,Q9,Ja,J3,J4,J5,Jb,J6,J7,Jc,J8,J9,Jd,Je,Ya,Jf,Yb,Jg,Jh,Y8,Yc,Ji,Yd,Ye,Yf,Yg,Yh,Y2,Jj,Qq,Jk,Yi,Jl,Jm,Yj,Y3,Yk,Yl,Y4,Ym,Y5,Yn,Qc,Yo,Jn,Yp,Yq,Y6,Yr,Qd,Jo,Jp,Y7,Ys,Yt,Yu,Yv,Yw,Yx,Jq,Jr,Qr,Js,Yy,Qe,Qs,List.set_cons_zero,List.set_cons_succ,List.map_cons,List.map_nil,List.replicate,List.cons_append,List.nil_append,List.length_cons,List.length_nil,Bool.false_eq_true,eq_self,if_true,if_false,Nat.zero_add,Jt,Yz,Ju,Jv,Jw,Y0,Jx,true_and,lt_int]
    by_cases hx3 : x < 3
    · rw [decide_eq_true hx3]
      obtain ⟨n, rfl⟩ : ∃ j, n = j + 1 := ⟨n - 1, by omega⟩
      obtain ⟨g1, g2⟩ := gp_str.mp hd.g
      have gw := hd.w
      simp only [wb] at gw
      have hzl : z.length = z.cps.size := rfl
      have ea : ∀ s : Sto, gAddB (.str z) (.str (Str.ofString "a")) s = .ok (.str (z ++ Str.ofString "a")) s := fun s => by
        show gAdd (.str z) (.str (Str.ofString "a")) s = _
        exact add_str (by have : (Str.ofString "a").length = 1 := by decide +kernel
                          omega)
      have es : ∀ s : Sto, gSl (.str z) (some 1) none s = .ok (.str (cutS z (some 1) none)) s := fun s => by
        show Rs.iff (decide (z.length ≤ 16777216)) _ = _
        rw [decide_eq_true (by omega)]; rfl
      have eu : ∀ s : Sto, gUpper (.str z) s = .ok (.str (Txt.upper z)) s := fun s => by
        show Rs.iff (decide (z.length ≤ 5592405)) _ = _
        rw [decide_eq_true (by omega)]; rfl
      have hz1 : PyData.strOk (z ++ Str.ofString "a") = true ∧ (z ++ Str.ofString "a").cps.size = z.cps.size + 1 := by
        have e1 : Str.ofString "a" = ⟨#[97]⟩ := by decide +kernel
        have e2 : (z ++ Str.ofString "a").cps = z.cps ++ #[97] := by rw [e1]; rfl
        have h0 : z.cps.all (· < 0x110000) = true := by simpa only [PyData.strOk] using g1
        refine ⟨?_, by rw [e2]; simp⟩
        simp only [PyData.strOk, e2]
        rw [Array.all_append, h0]; simp
      have hz2 := cutS_ok (lo := some 1) (hi := none) g1
      have hz3 := upper_ok g1
      have S : ∀ x : Str, PyData.strOk x = true → x.cps.size ≤ 3 * k + 1 → x.cps.size ≤ 3 * w + 400 → Md (m + 1) (3 * k + 1) (n + 1 + 2) (3 * w + 400) (.str x) := fun x h1 h2 h3 => ⟨gp_str.mpr ⟨h1, h2⟩, by simp only [wb]; omega⟩
      obtain ⟨e, he, hP⟩ := pickP (L := [.str (z ++ Str.ofString "a"), .str (cutS z (some 1) none), .str (Txt.upper z)]) (P := fun e => Md (m + 1) (3 * k + 1) (n + 1 + 2) (3 * w + 400) e ∧ tn e ≤ 3 * l + 1) (fun e he => by
        simp only [List.mem_cons, List.not_mem_nil, or_false] at he
        rcases he with rfl | rfl | rfl
        · exact ⟨S _ hz1.1 (by omega) (by omega), by simp [tn, tns]⟩
        · exact ⟨S _ hz2.1 (by omega) (by omega), by simp [tn, tns]⟩
        · exact ⟨S _ hz3.1 (by omega) (by omega), by simp [tn, tns]⟩) hx0 (show x < ((3 : Nat) : Int) from hx3)
      simp only [Y1,Qf,Qt,Qu,Qa,Qg,Qv,Qw,Qx,Qy,Qh,Qz,Jy,Qi,Qb,Qj,Qk,Q0,Jz,Q1,Q2,J0,Q3,Q4,J1,Ql,Qm,Qn,Q5,Qo,Q6,Qp,Q7,Q8,J2,Q9,Ja,J3,J4,J5,Jb,J6,J7,Jc,J8,J9,Jd,Je,Ya,Jf,Yb,Jg,Jh,Y8,Yc,Ji,Yd,Ye,Yf,Yg,Yh,Y2,Jj,Qq,Jk,Yi,Jl,Jm,Yj,Y3,Yk,Yl,Y4,Ym,Y5,Yn,Qc,Yo,Jn,Yp,Yq,Y6,Yr,Qd,Jo,Jp,Y7,Ys,Yt,Yu,Yv,Yw,Yx,Jq,Jr,Qr,Js,Yy,Qe,Qs,List.set_cons_zero,List.set_cons_succ,List.map_cons,List.map_nil,List.replicate,List.cons_append,List.nil_append,List.length_cons,List.length_nil,Bool.false_eq_true,eq_self,if_true,if_false,Nat.zero_add,Jt,Yz,Ju,Jv,Jw,Y0,Jx,true_and,ea,es,eu]
      refine ⟨rfl, ?_⟩
      rw [he, Y1]
      simp only [Y1,Qf,Qt,Qu,Qa,Qg,Qv,Qw,Qx,Qy,Qh,Qz,Jy,Qi,Qb,Qj,Qk,Q0,Jz,Q1,Q2,J0,Q3,Q4,J1,Ql,Qm,Qn,Q5,Qo,Q6,Qp,Q7,Q8,J2,Q9,Ja,J3,J4,J5,Jb,J6,J7,Jc,J8,J9,Jd,Je,Ya,Jf,Yb,Jg,Jh,Y8,Yc,Ji,Yd,Ye,Yf,Yg,Yh,Y2,Jj,Qq,Jk,Yi,Jl,Jm,Yj,Y3,Yk,Yl,Y4,Ym,Y5,Yn,Qc,Yo,Jn,Yp,Yq,Y6,Yr,Qd,Jo,Jp,Y7,Ys,Yt,Yu,Yv,Yw,Yx,Jq,Jr,Qr,Js,Yy,Qe,Qs,List.set_cons_zero,List.set_cons_succ,List.map_cons,List.map_nil,List.replicate,List.cons_append,List.nil_append,List.length_cons,List.length_nil,Bool.false_eq_true,eq_self,if_true,if_false,Nat.zero_add,Jt,Yz,Ju,Jv,Jw,Y0,Jx,true_and]
      exact bfinN P hf hP.1 hP.2 hw h1 (by omega)
    · rw [decide_eq_false hx3]
      simp only [Y1,Qf,Qt,Qu,Qa,Qg,Qv,Qw,Qx,Qy,Qh,Qz,Jy,Qi,Qb,Qj,Qk,Q0,Jz,Q1,Q2,J0,Q3,Q4,J1,Ql,Qm,Qn,Q5,Qo,Q6,Qp,Q7,Q8,J2,Q9,Ja,J3,J4,J5,Jb,J6,J7,Jc,J8,J9,Jd,Je,Ya,Jf,Yb,Jg,Jh,Y8,Yc,Ji,Yd,Ye,Yf,Yg,Yh,Y2,Jj,Qq,Jk,Yi,Jl,Jm,Yj,Y3,Yk,Yl,Y4,Ym,Y5,Yn,Qc,Yo,Jn,Yp,Yq,Y6,Yr,Qd,Jo,Jp,Y7,Ys,Yt,Yu,Yv,Yw,Yx,Jq,Jr,Qr,Js,Yy,Qe,Qs,List.set_cons_zero,List.set_cons_succ,List.map_cons,List.map_nil,List.replicate,List.cons_append,List.nil_append,List.length_cons,List.length_nil,Bool.false_eq_true,eq_self,if_true,if_false,Nat.zero_add,Jt,Yz,Ju,Jv,Jw,Y0,Jx,true_and]
      exact bendEN hbE hO P hf hw hc h1 h2 fun _ _ h => h
theorem bendCN {φo : Phi} {b : Fn Ct} (hb : b = bBendC φo) (hO : OddTN φo) {l m k n w : Nat} (P : BP m k n w) {lo hi : Int} {r : Sto} (hf : Fl r) {t : Tap} (hw : t.Wf) (hc : t.calls < 1000000) (h1 : lo ≤ t.calls) (h2 : t.calls + 1 ≤ hi) {d : Dv} (hd : Md m k n w d) {x : Int} (hx0 : 0 ≤ x) {v2 v3 : Option Dv} :
    OkE nX (b [some (.loc 0), some d, v2, v3, some (.int x)] (tapOb t :: r)) (finK nX (r.length + 1) (BQN l m k n w lo hi r)) := by
  subst hb
  have p1 := P.m50
  have p2 := P.m99
  have p3 := P.k0
  have p4 := P.k1
  have p5 := P.n1
  have p6 := P.w1
  have hm100 : m < 10 ^ 100 := Nat.lt_of_lt_of_le p2 (by decide +kernel)
  have hg : gb n d = true := gp_gb hm100 (by omega) hd.g
  unfold bBendC
  obtain ⟨bD, hbD⟩ : ∃ b : Fn Ct, b = bBendD φo := ⟨_, rfl⟩
  rw [← hbD]
  simp only [Y1,Qf,Qt,Qu,Qa,Qg,Qv,Qw,Qx,Qy,Qh,Qz,Jy,Qi,Qb,Qj,Qk,Q0,Jz,Q1,Q2,J0,Q3,Q4,J1,Ql,Qm,Qn,Q5,Qo,Q6,Qp,Q7,Q8,J2,Q9,Ja,J3,J4,J5,Jb,J6,J7,Jc,J8,J9,Jd,Je,Ya,Jf,Yb,Jg,Jh,Y8,Yc,Ji,Yd,Ye,Yf,Yg,Yh,Y2,Jj,Qq,Jk,Yi,Jl,Jm,Yj,Y3,Yk,Yl,Y4,Ym,Y5,Yn,Qc,Yo,Jn,Yp,Yq,Y6,Yr,Qd,Jo,Jp,Y7,Ys,Yt,Yu,Yv,Yw,Yx,Jq,Jr,Qr,Js,Yy,Qe,Qs,List.set_cons_zero,List.set_cons_succ,List.map_cons,List.map_nil,List.replicate,List.cons_append,List.nil_append,List.length_cons,List.length_nil,Bool.false_eq_true,eq_self,if_true,if_false,Nat.zero_add,Jt,Yz,Ju,Jv,Jw,Y0,Jx,true_and,ok_isi,kIsi_ap]
  refine ⟨gb_okX hg, ?_⟩
  rw [ty_int hg]
  cases e : isIntD d with
  | false =>
    simp only [Y1,Qf,Qt,Qu,Qa,Qg,Qv,Qw,Qx,Qy,Qh,Qz,Jy,Qi,Qb,Qj,Qk,Q0,Jz,Q1,Q2,J0,Q3,Q4,J1,Ql,Qm,Qn,Q5,Qo,Q6,Qp,Q7,Q8,J2,Q9,Ja,J3,J4,J5,Jb,J6,J7,Jc,J8,J9,Jd,Je,Ya,Jf,Yb,Jg,Jh,Y8,Yc,Ji,Yd,Ye,Yf,Yg,Yh,Y2,Jj,Qq,Jk,Yi,Jl,Jm,Yj,Y3,Yk,Yl,Y4,Ym,Y5,Yn,Qc,Yo,Jn,Yp,Yq,Y6,Yr,Qd,Jo,Jp,Y7,Ys,Yt,Yu,Yv,Yw,Yx,Jq,Jr,Qr,Js,Yy,Qe,Qs,List.set_cons_zero,List.set_cons_succ,List.map_cons,List.map_nil,List.replicate,List.cons_append,List.nil_append,List.length_cons,List.length_nil,Bool.false_eq_true,eq_self,if_true,if_false,Nat.zero_add,Jt,Yz,Ju,Jv,Jw,Y0,Jx,true_and]
    exact bendDN hbD hO P hf hw hc h1 h2 hd hx0
  | true =>
    simp only [Y1,Qf,Qt,Qu,Qa,Qg,Qv,Qw,Qx,Qy,Qh,Qz,Jy,Qi,Qb,Qj,Qk,Q0,Jz,Q1,Q2,J0,Q3,Q4,J1,Ql,Qm,Qn,Q5,Qo,Q6,Qp,Q7,Q8,J2,Q9,Ja,J3,J4,J5,Jb,J6,J7,Jc,J8,J9,Jd,Je,Ya,Jf,Yb,Jg,Jh,Y8,Yc,Ji,Yd,Ye,Yf,Yg,Yh,Y2,Jj,Qq,Jk,Yi,Jl,Jm,Yj,Y3,Yk,Yl,Y4,Ym,Y5,Yn,Qc,Yo,Jn,Yp,Yq,Y6,Yr,Qd,Jo,Jp,Y7,Ys,Yt,Yu,Yv,Yw,Yx,Jq,Jr,Qr,Js,Yy,Qe,Qs,List.set_cons_zero,List.set_cons_succ,List.map_cons,List.map_nil,List.replicate,List.cons_append,List.nil_append,List.length_cons,List.length_nil,Bool.false_eq_true,eq_self,if_true,if_false,Nat.zero_add,Jt,Yz,Ju,Jv,Jw,Y0,Jx,true_and,lt_int]
    by_cases hx4 : x < 4
    · rw [decide_eq_true hx4]
      have key : ∀ (i : Int) (q : Bool) (z : Str), i.natAbs ≤ m → PyData.strOk z = true → z.cps.size ≤ 101 → (∀ s : Sto, gAddB d (.int 1) s = .ok (.int (i + 1)) s) → (∀ s : Sto, gSubB d (.int 1) s = .ok (.int (i - 1)) s) → (∀ s : Sto, gEq d (.int 1) s = .ok (.bl q) s) → (∀ s : Sto, gStrB [d] s = .ok (.str z) s) →
          OkE nX (fRet (fBin gIx (fVal (fLst (fCons (fBin gAddB (fVar 1) (fC (.int 1))) (fCons (fBin gSubB (fVar 1) (fC (.int 1))) (fCons (fBin gEq (fVar 1) (fC (.int 1))) (fCons (fCall gStrB (fCons (fVar 1) (fNil))) (fNil))))))) (fVar 4)) [some (.loc 0), some d, v2, v3, some (.int x)] (tapOb t :: r)) (sq nX bD (finK nX (r.length + 1) (BQN l m k n w lo hi r))) := by
        intro i q z hi hz1 hz2 a1 a2 a3 a4
        obtain ⟨e, he, hP⟩ := pickP (L := [.int (i + 1), .int (i - 1), .bl q, .str z]) (P := fun e => Md (m + 1) (3 * k + 1) (n + 2) (3 * w + 400) e ∧ tn e ≤ 3 * l + 1) (fun e he => by
          simp only [List.mem_cons, List.not_mem_nil, or_false] at he
          rcases he with rfl | rfl | rfl | rfl
          · exact ⟨⟨gp_int.mpr (by omega), by simp only [wb]; omega⟩, by simp [tn, tns]⟩
          · exact ⟨⟨gp_int.mpr (by omega), by simp only [wb]; omega⟩, by simp [tn, tns]⟩
          · exact ⟨⟨by simp [gp], by simp [wb]⟩, by simp [tn, tns]⟩
          · exact ⟨⟨gp_str.mpr ⟨hz1, by omega⟩, by simp only [wb]; omega⟩, by simp [tn, tns]⟩) hx0 (show x < ((4 : Nat) : Int) from hx4)
        simp only [Y1,Qf,Qt,Qu,Qa,Qg,Qv,Qw,Qx,Qy,Qh,Qz,Jy,Qi,Qb,Qj,Qk,Q0,Jz,Q1,Q2,J0,Q3,Q4,J1,Ql,Qm,Qn,Q5,Qo,Q6,Qp,Q7,Q8,J2,Q9,Ja,J3,J4,J5,Jb,J6,J7,Jc,J8,J9,Jd,Je,Ya,Jf,Yb,Jg,Jh,Y8,Yc,Ji,Yd,Ye,Yf,Yg,Yh,Y2,Jj,Qq,Jk,Yi,Jl,Jm,Yj,Y3,Yk,Yl,Y4,Ym,Y5,Yn,Qc,Yo,Jn,Yp,Yq,Y6,Yr,Qd,Jo,Jp,Y7,Ys,Yt,Yu,Yv,Yw,Yx,Jq,Jr,Qr,Js,Yy,Qe,Qs,List.set_cons_zero,List.set_cons_succ,List.map_cons,List.map_nil,List.replicate,List.cons_append,List.nil_append,List.length_cons,List.length_nil,Bool.false_eq_true,eq_self,if_true,if_false,Nat.zero_add,Jt,Yz,Ju,Jv,Jw,Y0,Jx,true_and,a1,a2,a3,a4]
        refine ⟨rfl, ?_⟩
        rw [he, Y1]
        simp only [Y1,Qf,Qt,Qu,Qa,Qg,Qv,Qw,Qx,Qy,Qh,Qz,Jy,Qi,Qb,Qj,Qk,Q0,Jz,Q1,Q2,J0,Q3,Q4,J1,Ql,Qm,Qn,Q5,Qo,Q6,Qp,Q7,Q8,J2,Q9,Ja,J3,J4,J5,Jb,J6,J7,Jc,J8,J9,Jd,Je,Ya,Jf,Yb,Jg,Jh,Y8,Yc,Ji,Yd,Ye,Yf,Yg,Yh,Y2,Jj,Qq,Jk,Yi,Jl,Jm,Yj,Y3,Yk,Yl,Y4,Ym,Y5,Yn,Qc,Yo,Jn,Yp,Yq,Y6,Yr,Qd,Jo,Jp,Y7,Ys,Yt,Yu,Yv,Yw,Yx,Jq,Jr,Qr,Js,Yy,Qe,Qs,List.set_cons_zero,List.set_cons_succ,List.map_cons,List.map_nil,List.replicate,List.cons_append,List.nil_append,List.length_cons,List.length_nil,Bool.false_eq_true,eq_self,if_true,if_false,Nat.zero_add,Jt,Yz,Ju,Jv,Jw,Y0,Jx,true_and]
        exact bfinN P hf hP.1 hP.2 hw h1 (by omega)
      rw [if_pos rfl]
      cases d with
      | int i =>
        obtain ⟨n, rfl⟩ : ∃ j, n = j + 1 := ⟨n - 1, by omega⟩
        have hi := gp_int.mp hd.g
        have hi2 : i.natAbs < 10 ^ 100 := Nat.lt_of_le_of_lt hi hm100
        have q1 : (Str.ofString (toString i)).cps.size ≤ 101 := by
          have := int_text_length_le10 (a := i) (k := 100) (by decide) hi2
          show (Str.ofString (toString i)).length ≤ 101
          rw [PySem.ofString_length]; exact this
        have q2 : ∀ s : Sto, gStrB [.int i] s = .ok (.str (Str.ofString (toString i))) s := fun s => by
          show Rs.iff (decide (i.natAbs.log2 < 1920)) _ = _
          rw [decide_eq_true (by have := log2_big hi2; omega)]; rfl
        have K := key i (i == 1) (Str.ofString (toString i)) hi (strOk_of _) q1 (fun s => rfl) (fun s => rfl) (fun s => rfl) q2
        simp only [Y1,Qf,Qt,Qu,Qa,Qg,Qv,Qw,Qx,Qy,Qh,Qz,Jy,Qi,Qb,Qj,Qk,Q0,Jz,Q1,Q2,J0,Q3,Q4,J1,Ql,Qm,Qn,Q5,Qo,Q6,Qp,Q7,Q8,J2,Q9,Ja,J3,J4,J5,Jb,J6,J7,Jc,J8,J9,Jd,Je,Ya,Jf,Yb,Jg,Jh,Y8,Yc,Ji,Yd,Ye,Yf,Yg,Yh,Y2,Jj,Qq,Jk,Yi,Jl,Jm,Yj,Y3,Yk,Yl,Y4,Ym,Y5,Yn,Qc,Yo,Jn,Yp,Yq,Y6,Yr,Qd,Jo,Jp,Y7,Ys,Yt,Yu,Yv,Yw,Yx,Jq,Jr,Qr,Js,Yy,Qe,Qs,List.set_cons_zero,List.set_cons_succ,List.map_cons,List.map_nil,List.replicate,List.cons_append,List.nil_append,List.length_cons,List.length_nil,Bool.false_eq_true,eq_self,if_true,if_false,Nat.zero_add,Jt,Yz,Ju,Jv,Jw,Y0,Jx,true_and] at K
        exact K
      | bl b =>
        have hb : (b2n b).natAbs ≤ 1 := by cases b <;> decide
        have hx : PyData.strOk (if b = true then Str.ofString "True" else Str.ofString "False") = true ∧ (if b = true then Str.ofString "True" else Str.ofString "False").cps.size ≤ 101 := by cases b <;> decide +kernel
        have h40 : 1 ≤ 10 ^ 50 := by decide
        have hbm : (b2n b).natAbs ≤ m := by omega
        have K := key (b2n b) b _ hbm hx.1 hx.2 (fun s => rfl) (fun s => rfl) (fun s => eq_bl1) (fun s => rfl)
        simp only [Y1,Qf,Qt,Qu,Qa,Qg,Qv,Qw,Qx,Qy,Qh,Qz,Jy,Qi,Qb,Qj,Qk,Q0,Jz,Q1,Q2,J0,Q3,Q4,J1,Ql,Qm,Qn,Q5,Qo,Q6,Qp,Q7,Q8,J2,Q9,Ja,J3,J4,J5,Jb,J6,J7,Jc,J8,J9,Jd,Je,Ya,Jf,Yb,Jg,Jh,Y8,Yc,Ji,Yd,Ye,Yf,Yg,Yh,Y2,Jj,Qq,Jk,Yi,Jl,Jm,Yj,Y3,Yk,Yl,Y4,Ym,Y5,Yn,Qc,Yo,Jn,Yp,Yq,Y6,Yr,Qd,Jo,Jp,Y7,Ys,Yt,Yu,Yv,Yw,Yx,Jq,Jr,Qr,Js,Yy,Qe,Qs,List.set_cons_zero,List.set_cons_succ,List.map_cons,List.map_nil,List.replicate,List.cons_append,List.nil_append,List.length_cons,List.length_nil,Bool.false_eq_true,eq_self,if_true,if_false,Nat.zero_add,Jt,Yz,Ju,Jv,Jw,Y0,Jx,true_and] at K
        exact K
      | _ => cases e
    · rw [decide_eq_false hx4]
      simp only [Y1,Qf,Qt,Qu,Qa,Qg,Qv,Qw,Qx,Qy,Qh,Qz,Jy,Qi,Qb,Qj,Qk,Q0,Jz,Q1,Q2,J0,Q3,Q4,J1,Ql,Qm,Qn,Q5,Qo,Q6,Qp,Q7,Q8,J2,Q9,Ja,J3,J4,J5,Jb,J6,J7,Jc,J8,J9,Jd,Je,Ya,Jf,Yb,Jg,Jh,Y8,Yc,Ji,Yd,Ye,Yf,Yg,Yh,Y2,Jj,Qq,Jk,Yi,Jl,Jm,Yj,Y3,Yk,Yl,Y4,Ym,Y5,Yn,Qc,Yo,Jn,Yp,Yq,Y6,Yr,Qd,Jo,Jp,Y7,Ys,Yt,Yu,Yv,Yw,Yx,Jq,Jr,Qr,Js,Yy,Qe,Qs,List.set_cons_zero,List.set_cons_succ,List.map_cons,List.map_nil,List.replicate,List.cons_append,List.nil_append,List.length_cons,List.length_nil,Bool.false_eq_true,eq_self,if_true,if_false,Nat.zero_add,Jt,Yz,Ju,Jv,Jw,Y0,Jx,true_and]
      exact bendDN hbD hO P hf hw hc h1 h2 hd hx0
end Z

namespace Z
open PySem PySem.Spec L2

/-! ### a tuple bent, all tuples in it bounded -/
theorem bendT2N {φo : Phi} {b : Fn Ct} (hb : b = bBendT2 φo) (hO : OddTN φo) {l m k n w : Nat} (P : BP m k n w) {lo hi : Int} {r : Sto} (hf : Fl r) {t : Tap} (hw : t.Wf) (hc : t.calls < 1000000) (h1 : lo ≤ t.calls) (h2 : t.calls + 1 ≤ hi) {ds : List Dv} (hd : Md m k n w (.tup ds)) (hlt : tn (.tup ds) ≤ l) {x a : Int} (hx0 : 0 ≤ x) {v2 : Option Dv} {R : Ct → Sto → Prop} (hR : ∀ (d : Dv) (s : Sto), OkE nX (gcZ (r.length + 1) d s) (BQN l m k n w lo hi r) → R (.ret d) s) :
    OkE nX (b [some (.loc 0), some (.tup ds), v2, some (.int a), some (.int x)] (tapOb t :: r)) R := by
  subst hb
  have hl0 : ds.length ≤ l := (tn_tup.mp hlt).1
  have p1 := P.m50
  have p2 := P.m99
  have p3 := P.k0
  have p4 := P.k1
  have p5 := P.n1
  have p6 := P.w1
  unfold bBendT2
  obtain ⟨bE, hbE⟩ : ∃ b : Fn Ct, b = bBendE φo := ⟨_, rfl⟩
  rw [← hbE]
  simp only [Y1,Qf,Qt,Qu,Qa,Qg,Qv,Qw,Qx,Qy,Qh,Qz,Jy,Qi,Qb,Qj,Qk,Q0,Jz,Q1,Q2,J0,Q3,Q4,J1,Ql,Qm,Qn,Q5,Qo,Q6,Qp,Q7,Q8,J2,Q9,Ja,J3,J4,J5,Jb,J6,J7,Jc,J8,J9,Jd,Je,Ya,Jf,Yb,Jg,Jh,Y8,Yc,Ji,Yd,Ye,Yf,Yg,Yh,Y2,Jj,Qq,Jk,Yi,Jl,Jm,Yj,Y3,Yk,Yl,Y4,Ym,Y5,Yn,Qc,Yo,Jn,Yp,Yq,Y6,Yr,Qd,Jo,Jp,Y7,Ys,Yt,Yu,Yv,Yw,Yx,Jq,Jr,Qr,Js,Yy,Qe,Qs,List.set_cons_zero,List.set_cons_succ,List.map_cons,List.map_nil,List.replicate,List.cons_append,List.nil_append,List.length_cons,List.length_nil,Bool.false_eq_true,eq_self,if_true,if_false,Nat.zero_add,Jt,Yz,Ju,Jv,Jw,Y0,Jx,true_and,lt_int]
  by_cases hx5 : x < 5
  · rw [decide_eq_true hx5]
    obtain ⟨n, rfl⟩ : ∃ j, n = j + 1 := ⟨n - 1, by omega⟩
    have g := hd.g
    have gw := hd.w
    rw [gp_tup] at g
    rw [wb_tup] at gw
    have gl := wbs_len ds
    have ct : ∀ (lo hi : Option Int), wbs (cutD ds lo hi) ≤ w := fun lo hi => Nat.le_trans cut_wbs gw
    have cl : ∀ (lo hi : Option Int), (cutD ds lo hi).length ≤ 50000 := fun lo hi => Nat.le_trans cut_len (by omega)
    have T : ∀ es : List Dv, (∀ e ∈ es, e ∈ ds) → wbs es ≤ 3 * w + 400 → Md (m + 1) (3 * k + 1) (n + 1 + 2) (3 * w + 400) (.tup es) := fun es h1 h2 => ⟨by
      rw [gp_tup]
      exact gps_all fun e he => gp_up (by omega) (by omega) (gps_mem g e (h1 e he)) (by omega), by rw [wb_tup]; exact h2⟩
    have ea : ∀ (xs ys : List Dv) (s : Sto), xs.length + ys.length ≤ 16777216 → gAddB (.tup xs) (.tup ys) s = .ok (.tup (xs ++ ys)) s := fun xs ys s h => by
      show gAdd (.tup xs) (.tup ys) s = _
      exact add_tupD h
    have ei : ∀ (i : Int) (s : Sto), gAddB (.int i) (.int 1) s = .ok (.int (i + 1)) s := fun i s => rfl
    have M : ∀ {xs ys : List Dv}, (∀ e ∈ xs, e ∈ ds) → (∀ e ∈ ys, e ∈ ds) → ∀ e ∈ xs ++ ys, e ∈ ds := fun h1 h2 e he => (List.mem_append.mp he).elim (h1 e) (h2 e)
    have c1 := ct none (some a)
    have c2 := ct (some (a + 1)) none
    have c3 := ct (some a) (some (a + 1))
    have c4 := ct (some a) none
    have f1 := cut_len (ds := ds) (lo := none) (hi := some a)
    have f2 := cut_len (ds := ds) (lo := some (a + 1)) (hi := none)
    have f3 := cut_len (ds := ds) (lo := some a) (hi := some (a + 1))
    have f4 := cut_len (ds := ds) (lo := some a) (hi := none)
    have d1 := cl none (some a)
    have d2 := cl (some (a + 1)) none
    have d3 := cl (some a) (some (a + 1))
    have d4 := cl (some a) none
    obtain ⟨e, he, hP⟩ := pickP (L := [.ls ds, .tup (cutD ds none (some a) ++ cutD ds (some (a + 1)) none), .tup (cutD ds none (some a) ++ cutD ds (some a) (some (a + 1)) ++ cutD ds (some a) none), .tup [], .tup ds.reverse]) (P := fun e => Md (m + 1) (3 * k + 1) (n + 1 + 2) (3 * w + 400) e ∧ tn e ≤ 3 * l + 1) (fun e he => by
      simp only [List.mem_cons, List.not_mem_nil, or_false] at he
      rcases he with rfl | rfl | rfl | rfl | rfl
      · exact ⟨⟨by rw [gp_ls]; exact gps_up (by omega) (by omega) g (by omega), by rw [wb_ls]; omega⟩, by simp [tn, tns]⟩
      · exact ⟨T _ (M cut_mem cut_mem) (by rw [wbs_app]; omega), tnU hlt (M cut_mem cut_mem) (by simp only [List.length_append]; omega)⟩
      · exact ⟨T _ (M (M cut_mem cut_mem) cut_mem) (by rw [wbs_app, wbs_app]; omega), tnU hlt (M (M cut_mem cut_mem) cut_mem) (by simp only [List.length_append]; omega)⟩
      · exact ⟨T _ (fun e he => absurd he List.not_mem_nil) (by simp [wbs]), by simp [tn, tns]⟩
      · exact ⟨T _ (fun e he => List.mem_reverse.mp he) (by rw [wbs_perm (List.reverse_perm ds)]; omega), tnU hlt (fun e he => List.mem_reverse.mp he) (by rw [List.length_reverse]; omega)⟩) hx0 (show x < ((5 : Nat) : Int) from hx5)
    simp only [Y1,Qf,Qt,Qu,Qa,Qg,Qv,Qw,Qx,Qy,Qh,Qz,Jy,Qi,Qb,Qj,Qk,Q0,Jz,Q1,Q2,J0,Q3,Q4,J1,Ql,Qm,Qn,Q5,Qo,Q6,Qp,Q7,Q8,J2,Q9,Ja,J3,J4,J5,Jb,J6,J7,Jc,J8,J9,Jd,Je,Ya,Jf,Yb,Jg,Jh,Y8,Yc,Ji,Yd,Ye,Yf,Yg,Yh,Y2,Jj,Qq,Jk,Yi,Jl,Jm,Yj,Y3,Yk,Yl,Y4,Ym,Y5,Yn,Qc,Yo,Jn,Yp,Yq,Y6,Yr,Qd,Jo,Jp,Y7,Ys,Yt,Yu,Yv,Yw,Yx,Jq,Jr,Qr,Js,Yy,Qe,Qs,List.set_cons_zero,List.set_cons_succ,List.map_cons,List.map_nil,List.replicate,List.cons_append,List.nil_append,List.length_cons,List.length_nil,Bool.false_eq_true,eq_self,if_true,if_false,Nat.zero_add,Jt,Yz,Ju,Jv,Jw,Y0,Jx,true_and,show ∀ s : Sto,gList [.tup ds] s = .ok ds s from fun s => rfl, sl_any, ei]
    rw [ea _ _ _ (by omega), Y1]
    simp only [Y1,Qf,Qt,Qu,Qa,Qg,Qv,Qw,Qx,Qy,Qh,Qz,Jy,Qi,Qb,Qj,Qk,Q0,Jz,Q1,Q2,J0,Q3,Q4,J1,Ql,Qm,Qn,Q5,Qo,Q6,Qp,Q7,Q8,J2,Q9,Ja,J3,J4,J5,Jb,J6,J7,Jc,J8,J9,Jd,Je,Ya,Jf,Yb,Jg,Jh,Y8,Yc,Ji,Yd,Ye,Yf,Yg,Yh,Y2,Jj,Qq,Jk,Yi,Jl,Jm,Yj,Y3,Yk,Yl,Y4,Ym,Y5,Yn,Qc,Yo,Jn,Yp,Yq,Y6,Yr,Qd,Jo,Jp,Y7,Ys,Yt,Yu,Yv,Yw,Yx,Jq,Jr,Qr,Js,Yy,Qe,Qs,List.set_cons_zero,List.set_cons_succ,List.map_cons,List.map_nil,List.replicate,List.cons_append,List.nil_append,List.length_cons,List.length_nil,Bool.false_eq_true,eq_self,if_true,if_false,Nat.zero_add,Jt,Yz,Ju,Jv,Jw,Y0,Jx,true_and,sl_any,ei]
    rw [ea _ _ _ (by omega), Y1]
    simp only [Y1,Qf,Qt,Qu,Qa,Qg,Qv,Qw,Qx,Qy,Qh,Qz,Jy,Qi,Qb,Qj,Qk,Q0,Jz,Q1,Q2,J0,Q3,Q4,J1,Ql,Qm,Qn,Q5,Qo,Q6,Qp,Q7,Q8,J2,Q9,Ja,J3,J4,J5,Jb,J6,J7,Jc,J8,J9,Jd,Je,Ya,Jf,Yb,Jg,Jh,Y8,Yc,Ji,Yd,Ye,Yf,Yg,Yh,Y2,Jj,Qq,Jk,Yi,Jl,Jm,Yj,Y3,Yk,Yl,Y4,Ym,Y5,Yn,Qc,Yo,Jn,Yp,Yq,Y6,Yr,Qd,Jo,Jp,Y7,Ys,Yt,Yu,Yv,Yw,Yx,Jq,Jr,Qr,Js,Yy,Qe,Qs,List.set_cons_zero,List.set_cons_succ,List.map_cons,List.map_nil,List.replicate,List.cons_append,List.nil_append,List.length_cons,List.length_nil,Bool.false_eq_true,eq_self,if_true,if_false,Nat.zero_add,Jt,Yz,Ju,Jv,Jw,Y0,Jx,true_and,sl_any,ei]
    rw [ea _ _ _ (by rw [List.length_append]; omega), Y1]
    simp only [Y1,Qf,Qt,Qu,Qa,Qg,Qv,Qw,Qx,Qy,Qh,Qz,Jy,Qi,Qb,Qj,Qk,Q0,Jz,Q1,Q2,J0,Q3,Q4,J1,Ql,Qm,Qn,Q5,Qo,Q6,Qp,Q7,Q8,J2,Q9,Ja,J3,J4,J5,Jb,J6,J7,Jc,J8,J9,Jd,Je,Ya,Jf,Yb,Jg,Jh,Y8,Yc,Ji,Yd,Ye,Yf,Yg,Yh,Y2,Jj,Qq,Jk,Yi,Jl,Jm,Yj,Y3,Yk,Yl,Y4,Ym,Y5,Yn,Qc,Yo,Jn,Yp,Yq,Y6,Yr,Qd,Jo,Jp,Y7,Ys,Yt,Yu,Yv,Yw,Yx,Jq,Jr,Qr,Js,Yy,Qe,Qs,List.set_cons_zero,List.set_cons_succ,List.map_cons,List.map_nil,List.replicate,List.cons_append,List.nil_append,List.length_cons,List.length_nil,Bool.false_eq_true,eq_self,if_true,if_false,Nat.zero_add,Jt,Yz,Ju,Jv,Jw,Y0,Jx,true_and,ok_revT,kRevT_tup]
    refine ⟨rfl, rfl, ?_⟩
    rw [he, Y1]
    simp only [Y1,Qf,Qt,Qu,Qa,Qg,Qv,Qw,Qx,Qy,Qh,Qz,Jy,Qi,Qb,Qj,Qk,Q0,Jz,Q1,Q2,J0,Q3,Q4,J1,Ql,Qm,Qn,Q5,Qo,Q6,Qp,Q7,Q8,J2,Q9,Ja,J3,J4,J5,Jb,J6,J7,Jc,J8,J9,Jd,Je,Ya,Jf,Yb,Jg,Jh,Y8,Yc,Ji,Yd,Ye,Yf,Yg,Yh,Y2,Jj,Qq,Jk,Yi,Jl,Jm,Yj,Y3,Yk,Yl,Y4,Ym,Y5,Yn,Qc,Yo,Jn,Yp,Yq,Y6,Yr,Qd,Jo,Jp,Y7,Ys,Yt,Yu,Yv,Yw,Yx,Jq,Jr,Qr,Js,Yy,Qe,Qs,List.set_cons_zero,List.set_cons_succ,List.map_cons,List.map_nil,List.replicate,List.cons_append,List.nil_append,List.length_cons,List.length_nil,Bool.false_eq_true,eq_self,if_true,if_false,Nat.zero_add,Jt,Yz,Ju,Jv,Jw,Y0,Jx,true_and]
    exact hR _ _ (bfinN P hf hP.1 hP.2 hw h1 (by omega))
  · rw [decide_eq_false hx5]
    simp only [Y1,Qf,Qt,Qu,Qa,Qg,Qv,Qw,Qx,Qy,Qh,Qz,Jy,Qi,Qb,Qj,Qk,Q0,Jz,Q1,Q2,J0,Q3,Q4,J1,Ql,Qm,Qn,Q5,Qo,Q6,Qp,Q7,Q8,J2,Q9,Ja,J3,J4,J5,Jb,J6,J7,Jc,J8,J9,Jd,Je,Ya,Jf,Yb,Jg,Jh,Y8,Yc,Ji,Yd,Ye,Yf,Yg,Yh,Y2,Jj,Qq,Jk,Yi,Jl,Jm,Yj,Y3,Yk,Yl,Y4,Ym,Y5,Yn,Qc,Yo,Jn,Yp,Yq,Y6,Yr,Qd,Jo,Jp,Y7,Ys,Yt,Yu,Yv,Yw,Yx,Jq,Jr,Qr,Js,Yy,Qe,Qs,List.set_cons_zero,List.set_cons_succ,List.map_cons,List.map_nil,List.replicate,List.cons_append,List.nil_append,List.length_cons,List.length_nil,Bool.false_eq_true,eq_self,if_true,if_false,Nat.zero_add,Jt,Yz,Ju,Jv,Jw,Y0,Jx,true_and]
    exact bendEN hbE hO P hf hw hc h1 h2 hR
theorem bendTN {φt φo : Phi} {b : Fn Ct} (hb : b = bBendT φt φo) (hT : TakeS φt) (hO : OddTN φo) {l m k n w : Nat} (P : BP m k n w) {lo hi : Int} {r : Sto} (hf : Fl r) {t : Tap} (hw : t.Wf) (hc : t.calls + 2 < 1000000) (h1 : lo ≤ t.calls) (h2 : t.calls + 2 ≤ hi) {ds : List Dv} (hd : Md m k n w (.tup ds)) (hlt : tn (.tup ds) ≤ l) {x : Int} (hx0 : 0 ≤ x) {v2 v3 : Option Dv} {R : Ct → Sto → Prop} (hR : ∀ (d : Dv) (s : Sto), OkE nX (gcZ (r.length + 1) d s) (BQN l m k n w lo hi r) → R (.ret d) s) :
    OkE nX (b [some (.loc 0), some (.tup ds), v2, v3, some (.int x)] (tapOb t :: r)) R := by
  subst hb
  have hl0 : ds.length ≤ l := (tn_tup.mp hlt).1
  have p1 := P.m50
  have p2 := P.m99
  have p3 := P.k0
  have p4 := P.k1
  have p5 := P.n1
  have p6 := P.w1
  unfold bBendT
  obtain ⟨b2, hb2⟩ : ∃ b : Fn Ct, b = bBendT2 φo := ⟨_, rfl⟩
  rw [← hb2]
  have gw := hd.w
  rw [wb_tup] at gw
  have gl := wbs_len ds
  have ei : ∀ (i : Int) (s : Sto), gAddB (.int i) (.int 1) s = .ok (.int (i + 1)) s := fun i s => rfl
  simp only [Y1,Qf,Qt,Qu,Qa,Qg,Qv,Qw,Qx,Qy,Qh,Qz,Jy,Qi,Qb,Qj,Qk,Q0,Jz,Q1,Q2,J0,Q3,Q4,J1,Ql,Qm,Qn,Q5,Qo,Q6,Qp,Q7,Q8,J2,Q9,Ja,J3,J4,J5,Jb,J6,J7,Jc,J8,J9,Jd,Je,Ya,Jf,Yb,Jg,Jh,Y8,Yc,Ji,Yd,Ye,Yf,Yg,Yh,Y2,Jj,Qq,Jk,Yi,Jl,Jm,Yj,Y3,Yk,Yl,Y4,Ym,Y5,Yn,Qc,Yo,Jn,Yp,Yq,Y6,Yr,Qd,Jo,Jp,Y7,Ys,Yt,Yu,Yv,Yw,Yx,Jq,Jr,Qr,Js,Yy,Qe,Qs,List.set_cons_zero,List.set_cons_succ,List.map_cons,List.map_nil,List.replicate,List.cons_append,List.nil_append,List.length_cons,List.length_nil,Bool.false_eq_true,eq_self,if_true,if_false,Nat.zero_add,Jt,Yz,Ju,Jv,Jw,Y0,Jx,true_and,len_tup,ei]
  refine (hT t r ((ds.length : Int) + 1) hw (by omega) (by omega) (by omega) hf).mono ?_
  rintro d' s ⟨a, t2, rfl, ha0, ha1, rfl, hw2, hc2⟩
  simp only [Y1,Qf,Qt,Qu,Qa,Qg,Qv,Qw,Qx,Qy,Qh,Qz,Jy,Qi,Qb,Qj,Qk,Q0,Jz,Q1,Q2,J0,Q3,Q4,J1,Ql,Qm,Qn,Q5,Qo,Q6,Qp,Q7,Q8,J2,Q9,Ja,J3,J4,J5,Jb,J6,J7,Jc,J8,J9,Jd,Je,Ya,Jf,Yb,Jg,Jh,Y8,Yc,Ji,Yd,Ye,Yf,Yg,Yh,Y2,Jj,Qq,Jk,Yi,Jl,Jm,Yj,Y3,Yk,Yl,Y4,Ym,Y5,Yn,Qc,Yo,Jn,Yp,Yq,Y6,Yr,Qd,Jo,Jp,Y7,Ys,Yt,Yu,Yv,Yw,Yx,Jq,Jr,Qr,Js,Yy,Qe,Qs,List.set_cons_zero,List.set_cons_succ,List.map_cons,List.map_nil,List.replicate,List.cons_append,List.nil_append,List.length_cons,List.length_nil,Bool.false_eq_true,eq_self,if_true,if_false,Nat.zero_add,Jt,Yz,Ju,Jv,Jw,Y0,Jx,true_and,eq_int]
  cases e3 : x == 3 with
  | true =>
    obtain ⟨n, rfl⟩ : ∃ j, n = j + 1 := ⟨n - 1, by omega⟩
    have g := hd.g
    rw [gp_tup] at g
    have cl : ∀ (lo hi : Option Int), (cutD ds lo hi).length ≤ 50000 := fun lo hi => Nat.le_trans cut_len (by omega)
    have d1 := cl none (some a)
    have d4 := cl (some a) none
    have ea : ∀ (xs ys : List Dv) (s : Sto), xs.length + ys.length ≤ 16777216 → gAddB (.tup xs) (.tup ys) s = .ok (.tup (xs ++ ys)) s := fun xs ys s h => by
      show gAdd (.tup xs) (.tup ys) s = _
      exact add_tupD h
    simp only [Y1,Qf,Qt,Qu,Qa,Qg,Qv,Qw,Qx,Qy,Qh,Qz,Jy,Qi,Qb,Qj,Qk,Q0,Jz,Q1,Q2,J0,Q3,Q4,J1,Ql,Qm,Qn,Q5,Qo,Q6,Qp,Q7,Q8,J2,Q9,Ja,J3,J4,J5,Jb,J6,J7,Jc,J8,J9,Jd,Je,Ya,Jf,Yb,Jg,Jh,Y8,Yc,Ji,Yd,Ye,Yf,Yg,Yh,Y2,Jj,Qq,Jk,Yi,Jl,Jm,Yj,Y3,Yk,Yl,Y4,Ym,Y5,Yn,Qc,Yo,Jn,Yp,Yq,Y6,Yr,Qd,Jo,Jp,Y7,Ys,Yt,Yu,Yv,Yw,Yx,Jq,Jr,Qr,Js,Yy,Qe,Qs,List.set_cons_zero,List.set_cons_succ,List.map_cons,List.map_nil,List.replicate,List.cons_append,List.nil_append,List.length_cons,List.length_nil,Bool.false_eq_true,eq_self,if_true,if_false,Nat.zero_add,Jt,Yz,Ju,Jv,Jw,Y0,Jx,true_and,sl_any]
    refine (hO t2 r hw2 (by omega) hf).mono ?_
    rintro y s ⟨t3, ⟨hy, hyl⟩, rfl, hw3, hc3⟩
    simp only [Y1,Qf,Qt,Qu,Qa,Qg,Qv,Qw,Qx,Qy,Qh,Qz,Jy,Qi,Qb,Qj,Qk,Q0,Jz,Q1,Q2,J0,Q3,Q4,J1,Ql,Qm,Qn,Q5,Qo,Q6,Qp,Q7,Q8,J2,Q9,Ja,J3,J4,J5,Jb,J6,J7,Jc,J8,J9,Jd,Je,Ya,Jf,Yb,Jg,Jh,Y8,Yc,Ji,Yd,Ye,Yf,Yg,Yh,Y2,Jj,Qq,Jk,Yi,Jl,Jm,Yj,Y3,Yk,Yl,Y4,Ym,Y5,Yn,Qc,Yo,Jn,Yp,Yq,Y6,Yr,Qd,Jo,Jp,Y7,Ys,Yt,Yu,Yv,Yw,Yx,Jq,Jr,Qr,Js,Yy,Qe,Qs,List.set_cons_zero,List.set_cons_succ,List.map_cons,List.map_nil,List.replicate,List.cons_append,List.nil_append,List.length_cons,List.length_nil,Bool.false_eq_true,eq_self,if_true,if_false,Nat.zero_add,Jt,Yz,Ju,Jv,Jw,Y0,Jx,true_and]
    refine ⟨rfl, ?_⟩
    rw [ea _ _ _ (by rw [List.length_singleton]; omega), Y1]
    simp only [Y1,Qf,Qt,Qu,Qa,Qg,Qv,Qw,Qx,Qy,Qh,Qz,Jy,Qi,Qb,Qj,Qk,Q0,Jz,Q1,Q2,J0,Q3,Q4,J1,Ql,Qm,Qn,Q5,Qo,Q6,Qp,Q7,Q8,J2,Q9,Ja,J3,J4,J5,Jb,J6,J7,Jc,J8,J9,Jd,Je,Ya,Jf,Yb,Jg,Jh,Y8,Yc,Ji,Yd,Ye,Yf,Yg,Yh,Y2,Jj,Qq,Jk,Yi,Jl,Jm,Yj,Y3,Yk,Yl,Y4,Ym,Y5,Yn,Qc,Yo,Jn,Yp,Yq,Y6,Yr,Qd,Jo,Jp,Y7,Ys,Yt,Yu,Yv,Yw,Yx,Jq,Jr,Qr,Js,Yy,Qe,Qs,List.set_cons_zero,List.set_cons_succ,List.map_cons,List.map_nil,List.replicate,List.cons_append,List.nil_append,List.length_cons,List.length_nil,Bool.false_eq_true,eq_self,if_true,if_false,Nat.zero_add,Jt,Yz,Ju,Jv,Jw,Y0,Jx,true_and,sl_any]
    rw [ea _ _ _ (by rw [List.length_append, List.length_singleton]; omega), Y1]
    simp only [Y1,Qf,Qt,Qu,Qa,Qg,Qv,Qw,Qx,Qy,Qh,Qz,Jy,Qi,Qb,Qj,Qk,Q0,Jz,Q1,Q2,J0,Q3,Q4,J1,Ql,Qm,Qn,Q5,Qo,Q6,Qp,Q7,Q8,J2,Q9,Ja,J3,J4,J5,Jb,J6,J7,Jc,J8,J9,Jd,Je,Ya,Jf,Yb,Jg,Jh,Y8,Yc,Ji,Yd,Ye,Yf,Yg,Yh,Y2,Jj,Qq,Jk,Yi,Jl,Jm,Yj,Y3,Yk,Yl,Y4,Ym,Y5,Yn,Qc,Yo,Jn,Yp,Yq,Y6,Yr,Qd,Jo,Jp,Y7,Ys,Yt,Yu,Yv,Yw,Yx,Jq,Jr,Qr,Js,Yy,Qe,Qs,List.set_cons_zero,List.set_cons_succ,List.map_cons,List.map_nil,List.replicate,List.cons_append,List.nil_append,List.length_cons,List.length_nil,Bool.false_eq_true,eq_self,if_true,if_false,Nat.zero_add,Jt,Yz,Ju,Jv,Jw,Y0,Jx,true_and]
    have hcat : wbs (cutD ds none (some a)) + wbs (cutD ds (some a) none) ≤ w := by
      obtain ⟨j, rfl⟩ : ∃ j : Nat, a = (j : Int) := ⟨a.toNat, by omega⟩
      rw [cut_take (by omega)]
      have : cutD ds (some (j : Int)) none = ds.drop j := by
        have := sl_drop (ds := ds) (k := j) (s := []) (by omega)
        rw [sl_any] at this
        injection this with h _
        injection h
      rw [this]
      have := wbs_split ds j
      show wbs (ds.take (Int.toNat j)) + _ ≤ w
      rw [Int.toNat_natCast]; omega
    refine hR _ _ (bfinN P hf ⟨?_, ?_⟩ (by
      have f1 := cut_len (ds := ds) (lo := none) (hi := some a)
      have f4 := cut_len (ds := ds) (lo := some a) (hi := none)
      refine tn_tup.mpr ⟨by simp only [List.length_append, List.length_singleton]; omega, fun e he => ?_⟩
      have q := (tn_tup.mp hlt).2
      rcases List.mem_append.mp he with h | h
      · rcases List.mem_append.mp h with h | h
        · have := q e (cut_mem e h); omega
        · rw [List.mem_singleton.mp h]; omega
      · have := q e (cut_mem e h); omega) hw3 (by omega) (by omega))
    · rw [gp_tup]
      refine gps_all fun e he => ?_
      rcases List.mem_append.mp he with h | h
      · rcases List.mem_append.mp h with h | h
        · exact gp_up (by omega) (by omega) (gps_mem g e (cut_mem e h)) (by omega)
        · rw [List.mem_singleton.mp h]; exact gp_up (by omega) (by omega) hy.g (by omega)
      · exact gp_up (by omega) (by omega) (gps_mem g e (cut_mem e h)) (by omega)
    · rw [wb_tup, wbs_app, wbs_app]
      have := hy.w
      simp only [wbs]; omega
  | false =>
    simp only [Y1,Qf,Qt,Qu,Qa,Qg,Qv,Qw,Qx,Qy,Qh,Qz,Jy,Qi,Qb,Qj,Qk,Q0,Jz,Q1,Q2,J0,Q3,Q4,J1,Ql,Qm,Qn,Q5,Qo,Q6,Qp,Q7,Q8,J2,Q9,Ja,J3,J4,J5,Jb,J6,J7,Jc,J8,J9,Jd,Je,Ya,Jf,Yb,Jg,Jh,Y8,Yc,Ji,Yd,Ye,Yf,Yg,Yh,Y2,Jj,Qq,Jk,Yi,Jl,Jm,Yj,Y3,Yk,Yl,Y4,Ym,Y5,Yn,Qc,Yo,Jn,Yp,Yq,Y6,Yr,Qd,Jo,Jp,Y7,Ys,Yt,Yu,Yv,Yw,Yx,Jq,Jr,Qr,Js,Yy,Qe,Qs,List.set_cons_zero,List.set_cons_succ,List.map_cons,List.map_nil,List.replicate,List.cons_append,List.nil_append,List.length_cons,List.length_nil,Bool.false_eq_true,eq_self,if_true,if_false,Nat.zero_add,Jt,Yz,Ju,Jv,Jw,Y0,Jx,true_and]
    exact bendT2N hb2 hO P hf hw2 (by omega) (by omega) (by omega) hd hlt hx0 hR
end Z

namespace Z
open PySem PySem.Spec L2

/-! ### a thing bent, by levels, all tuples in it bounded -/
theorem bendBN {φt φo : Phi} {b : Fn Ct} (hb : b = bBendB φt φo) (hT : TakeS φt) (hO : OddTN φo) {l m k n w : Nat} (P : BP m k n w) {lo hi : Int} {r : Sto} (hf : Fl r) {t : Tap} (hw : t.Wf) (hc : t.calls + 3 < 1000000) (h1 : lo ≤ t.calls) (h2 : t.calls + 3 ≤ hi) {d : Dv} (hd : Md m k n w d) (hlt : tn d ≤ l) {v2 v3 v4 : Option Dv} :
    OkE nX (b [some (.loc 0), some d, v2, v3, v4] (tapOb t :: r)) (finK nX (r.length + 1) (BQN l m k n w lo hi r)) := by
  subst hb
  have p2 := P.m99
  have p4 := P.k1
  have hg : gb n d = true := gp_gb (Nat.lt_of_lt_of_le p2 (by decide +kernel)) (by omega) hd.g
  unfold bBendB
  obtain ⟨bC, hbC⟩ : ∃ b : Fn Ct, b = bBendC φo := ⟨_, rfl⟩
  obtain ⟨bT, hbT⟩ : ∃ b : Fn Ct, b = bBendT φt φo := ⟨_, rfl⟩
  rw [← hbC, ← hbT]
  simp only [Y1,Qf,Qt,Qu,Qa,Qg,Qv,Qw,Qx,Qy,Qh,Qz,Jy,Qi,Qb,Qj,Qk,Q0,Jz,Q1,Q2,J0,Q3,Q4,J1,Ql,Qm,Qn,Q5,Qo,Q6,Qp,Q7,Q8,J2,Q9,Ja,J3,J4,J5,Jb,J6,J7,Jc,J8,J9,Jd,Je,Ya,Jf,Yb,Jg,Jh,Y8,Yc,Ji,Yd,Ye,Yf,Yg,Yh,Y2,Jj,Qq,Jk,Yi,Jl,Jm,Yj,Y3,Yk,Yl,Y4,Ym,Y5,Yn,Qc,Yo,Jn,Yp,Yq,Y6,Yr,Qd,Jo,Jp,Y7,Ys,Yt,Yu,Yv,Yw,Yx,Jq,Jr,Qr,Js,Yy,Qe,Qs,List.set_cons_zero,List.set_cons_succ,List.map_cons,List.map_nil,List.replicate,List.cons_append,List.nil_append,List.length_cons,List.length_nil,Bool.false_eq_true,eq_self,if_true,if_false,Nat.zero_add,Jt,Yz,Ju,Jv,Jw,Y0,Jx,true_and]
  refine (hT t r 7 hw (by omega) (by decide) (by decide) hf).mono ?_
  rintro d' s ⟨x, t2, rfl, hx0, hx1, rfl, hw2, hc2⟩
  simp only [Y1,Qf,Qt,Qu,Qa,Qg,Qv,Qw,Qx,Qy,Qh,Qz,Jy,Qi,Qb,Qj,Qk,Q0,Jz,Q1,Q2,J0,Q3,Q4,J1,Ql,Qm,Qn,Q5,Qo,Q6,Qp,Q7,Q8,J2,Q9,Ja,J3,J4,J5,Jb,J6,J7,Jc,J8,J9,Jd,Je,Ya,Jf,Yb,Jg,Jh,Y8,Yc,Ji,Yd,Ye,Yf,Yg,Yh,Y2,Jj,Qq,Jk,Yi,Jl,Jm,Yj,Y3,Yk,Yl,Y4,Ym,Y5,Yn,Qc,Yo,Jn,Yp,Yq,Y6,Yr,Qd,Jo,Jp,Y7,Ys,Yt,Yu,Yv,Yw,Yx,Jq,Jr,Qr,Js,Yy,Qe,Qs,List.set_cons_zero,List.set_cons_succ,List.map_cons,List.map_nil,List.replicate,List.cons_append,List.nil_append,List.length_cons,List.length_nil,Bool.false_eq_true,eq_self,if_true,if_false,Nat.zero_add,Jt,Yz,Ju,Jv,Jw,Y0,Jx,true_and,ok_isi,kIsi_ap]
  refine ⟨gb_okX hg, ?_⟩
  rw [ty_tup hg]
  cases e : isTupD d with
  | false =>
    simp only [Y1,Qf,Qt,Qu,Qa,Qg,Qv,Qw,Qx,Qy,Qh,Qz,Jy,Qi,Qb,Qj,Qk,Q0,Jz,Q1,Q2,J0,Q3,Q4,J1,Ql,Qm,Qn,Q5,Qo,Q6,Qp,Q7,Q8,J2,Q9,Ja,J3,J4,J5,Jb,J6,J7,Jc,J8,J9,Jd,Je,Ya,Jf,Yb,Jg,Jh,Y8,Yc,Ji,Yd,Ye,Yf,Yg,Yh,Y2,Jj,Qq,Jk,Yi,Jl,Jm,Yj,Y3,Yk,Yl,Y4,Ym,Y5,Yn,Qc,Yo,Jn,Yp,Yq,Y6,Yr,Qd,Jo,Jp,Y7,Ys,Yt,Yu,Yv,Yw,Yx,Jq,Jr,Qr,Js,Yy,Qe,Qs,List.set_cons_zero,List.set_cons_succ,List.map_cons,List.map_nil,List.replicate,List.cons_append,List.nil_append,List.length_cons,List.length_nil,Bool.false_eq_true,eq_self,if_true,if_false,Nat.zero_add,Jt,Yz,Ju,Jv,Jw,Y0,Jx,true_and]
    exact bendCN hbC hO P hf hw2 (by omega) (by omega) (by omega) hd hx0
  | true =>
    obtain ⟨ds, rfl⟩ : ∃ ds, d = .tup ds := by
      cases d with
      | tup ds => exact ⟨ds, rfl⟩
      | _ => cases e
    simp only [Y1,Qf,Qt,Qu,Qa,Qg,Qv,Qw,Qx,Qy,Qh,Qz,Jy,Qi,Qb,Qj,Qk,Q0,Jz,Q1,Q2,J0,Q3,Q4,J1,Ql,Qm,Qn,Q5,Qo,Q6,Qp,Q7,Q8,J2,Q9,Ja,J3,J4,J5,Jb,J6,J7,Jc,J8,J9,Jd,Je,Ya,Jf,Yb,Jg,Jh,Y8,Yc,Ji,Yd,Ye,Yf,Yg,Yh,Y2,Jj,Qq,Jk,Yi,Jl,Jm,Yj,Y3,Yk,Yl,Y4,Ym,Y5,Yn,Qc,Yo,Jn,Yp,Yq,Y6,Yr,Qd,Jo,Jp,Y7,Ys,Yt,Yu,Yv,Yw,Yx,Jq,Jr,Qr,Js,Yy,Qe,Qs,List.set_cons_zero,List.set_cons_succ,List.map_cons,List.map_nil,List.replicate,List.cons_append,List.nil_append,List.length_cons,List.length_nil,Bool.false_eq_true,eq_self,if_true,if_false,Nat.zero_add,Jt,Yz,Ju,Jv,Jw,Y0,Jx,true_and]
    exact bendTN hbT hT hO P hf hw2 (by omega) (by omega) (by omega) hd hlt hx0 fun _ _ h => h
def BendSN (j : Nat) (φ : Phi) : Prop := ∀ (l m k n w : Nat) (t : Tap) (r : Sto) (d : Dv) (deep : Int), BP m k n w → t.Wf → t.calls + 5 * j < 1000000 → Fl r → 0 ≤ deep → deep < j → Md m k n w d → tn d ≤ l →
  OkE nX (φ [.loc 0, d, .int deep] (tapOb t :: r)) (BQN l m k n w t.calls (t.calls + 5 * j) r)
theorem bendAN {φt ψ : Phi} {b : Fn Ct} (hb : b = bBendA φt ψ) (hT : TakeS φt) {j : Nat} (hψ : BendSN j ψ) {l m k n w : Nat} (P : BP m k n w) {lo hi : Int} {r : Sto} (hf : Fl r) {t : Tap} (hw : t.Wf) (hc : t.calls + 1 + 5 * j < 1000000) (h1 : lo ≤ t.calls) (h2 : t.calls + 1 + 5 * j ≤ hi) {ds : List Dv} (hd : Md m k n w (.tup ds)) (hlt : tn (.tup ds) ≤ l) (hl : 0 < ds.length) {deep : Int} (hd0 : 0 < deep) (hd1 : deep ≤ j) {v3 v4 : Option Dv} {R : Ct → Sto → Prop} (hR : ∀ (d : Dv) (s : Sto), OkE nX (gcZ (r.length + 1) d s) (BQN l m k n w lo hi r) → R (.ret d) s) :
    OkE nX (b [some (.loc 0), some (.tup ds), some (.int deep), v3, v4] (tapOb t :: r)) R := by
  subst hb
  have hl0 : ds.length ≤ l := (tn_tup.mp hlt).1
  have p1 := P.m50
  have p2 := P.m99
  have p3 := P.k0
  have p4 := P.k1
  have p5 := P.n1
  have p6 := P.w1
  have p7 := P.n2
  unfold bBendA
  obtain ⟨n, rfl⟩ : ∃ j, n = j + 1 := ⟨n - 1, by omega⟩
  have g := hd.g
  rw [gp_tup] at g
  have gw := hd.w
  rw [wb_tup] at gw
  have gl := wbs_len ds
  simp only [Y1,Qf,Qt,Qu,Qa,Qg,Qv,Qw,Qx,Qy,Qh,Qz,Jy,Qi,Qb,Qj,Qk,Q0,Jz,Q1,Q2,J0,Q3,Q4,J1,Ql,Qm,Qn,Q5,Qo,Q6,Qp,Q7,Q8,J2,Q9,Ja,J3,J4,J5,Jb,J6,J7,Jc,J8,J9,Jd,Je,Ya,Jf,Yb,Jg,Jh,Y8,Yc,Ji,Yd,Ye,Yf,Yg,Yh,Y2,Jj,Qq,Jk,Yi,Jl,Jm,Yj,Y3,Yk,Yl,Y4,Ym,Y5,Yn,Qc,Yo,Jn,Yp,Yq,Y6,Yr,Qd,Jo,Jp,Y7,Ys,Yt,Yu,Yv,Yw,Yx,Jq,Jr,Qr,Js,Yy,Qe,Qs,List.set_cons_zero,List.set_cons_succ,List.map_cons,List.map_nil,List.replicate,List.cons_append,List.nil_append,List.length_cons,List.length_nil,Bool.false_eq_true,eq_self,if_true,if_false,Nat.zero_add,Jt,Yz,Ju,Jv,Jw,Y0,Jx,true_and,len_tup]
  refine (hT t r (ds.length : Int) hw (by omega) (by omega) (by omega) hf).mono ?_
  rintro d' s ⟨x, t2, rfl, ha0, ha1, rfl, hw2, hc2⟩
  obtain ⟨a, rfl⟩ : ∃ a : Nat, x = (a : Int) := ⟨x.toNat, by omega⟩
  have ha : a < ds.length := by omega
  have hget : ds[a]? = some ds[a] := List.getElem?_eq_getElem ha
  have hmem := List.getElem_mem ha
  generalize ds[a] = y at hget hmem
  have gy := gps_mem g y hmem
  have hn0 : 1 ≤ n := by
    cases n with
    | zero => simp [gp] at gy
    | succ n => omega
  have ei : ∀ s : Sto, gIx (.tup ds) (.int (a : Nat)) s = .ok y s := fun s => ix_tupN hget
  have et : ∀ s : Sto, gSl (.tup ds) none (some ((a : Nat) : Int)) s = .ok (.tup (ds.take a)) s := fun s => sl_take
  have ed1 : ∀ s : Sto, gSl (.tup ds) (some (((a : Nat) : Int) + 1)) none s = .ok (.tup (ds.drop (a + 1))) s := fun s => by
    have := sl_drop (ds := ds) (k := a + 1) (s := s) (by omega)
    push_cast at this
    exact this
  have hsg := wbs_get hget
  have ea : ∀ (xs ys : List Dv) (s : Sto), xs.length + ys.length ≤ 16777216 → gAddB (.tup xs) (.tup ys) s = .ok (.tup (xs ++ ys)) s := fun xs ys s h => by
    show gAdd (.tup xs) (.tup ys) s = _
    exact add_tupD h
  have es : ∀ s : Sto, gSubB (.int deep) (.int 1) s = .ok (.int (deep - 1)) s := fun s => rfl
  have e1 : ∀ s : Sto, gAddB (.int ((a : Nat) : Int)) (.int 1) s = .ok (.int (((a : Nat) : Int) + 1)) s := fun s => rfl
  have wy := wb_mem hmem
  simp only [Y1,Qf,Qt,Qu,Qa,Qg,Qv,Qw,Qx,Qy,Qh,Qz,Jy,Qi,Qb,Qj,Qk,Q0,Jz,Q1,Q2,J0,Q3,Q4,J1,Ql,Qm,Qn,Q5,Qo,Q6,Qp,Q7,Q8,J2,Q9,Ja,J3,J4,J5,Jb,J6,J7,Jc,J8,J9,Jd,Je,Ya,Jf,Yb,Jg,Jh,Y8,Yc,Ji,Yd,Ye,Yf,Yg,Yh,Y2,Jj,Qq,Jk,Yi,Jl,Jm,Yj,Y3,Yk,Yl,Y4,Ym,Y5,Yn,Qc,Yo,Jn,Yp,Yq,Y6,Yr,Qd,Jo,Jp,Y7,Ys,Yt,Yu,Yv,Yw,Yx,Jq,Jr,Qr,Js,Yy,Qe,Qs,List.set_cons_zero,List.set_cons_succ,List.map_cons,List.map_nil,List.replicate,List.cons_append,List.nil_append,List.length_cons,List.length_nil,Bool.false_eq_true,eq_self,if_true,if_false,Nat.zero_add,Jt,Yz,Ju,Jv,Jw,Y0,Jx,true_and,et,ei,es]
  refine (hψ (tn y) m k n (wb y) t2 r y (deep - 1) ⟨p1, p2, p3, p4, hn0, by omega, by omega⟩ hw2 (by omega) hf (by omega) (by omega) ⟨gy, Nat.le_refl _⟩ (Nat.le_refl _)).mono ?_
  rintro d' s ⟨t3, g2, gl2, rfl, hw3, hg3, hl3⟩
  have hyl : tn y ≤ l := (tn_tup.mp hlt).2 y hmem
  simp only [Y1,Qf,Qt,Qu,Qa,Qg,Qv,Qw,Qx,Qy,Qh,Qz,Jy,Qi,Qb,Qj,Qk,Q0,Jz,Q1,Q2,J0,Q3,Q4,J1,Ql,Qm,Qn,Q5,Qo,Q6,Qp,Q7,Q8,J2,Q9,Ja,J3,J4,J5,Jb,J6,J7,Jc,J8,J9,Jd,Je,Ya,Jf,Yb,Jg,Jh,Y8,Yc,Ji,Yd,Ye,Yf,Yg,Yh,Y2,Jj,Qq,Jk,Yi,Jl,Jm,Yj,Y3,Yk,Yl,Y4,Ym,Y5,Yn,Qc,Yo,Jn,Yp,Yq,Y6,Yr,Qd,Jo,Jp,Y7,Ys,Yt,Yu,Yv,Yw,Yx,Jq,Jr,Qr,Js,Yy,Qe,Qs,List.set_cons_zero,List.set_cons_succ,List.map_cons,List.map_nil,List.replicate,List.cons_append,List.nil_append,List.length_cons,List.length_nil,Bool.false_eq_true,eq_self,if_true,if_false,Nat.zero_add,Jt,Yz,Ju,Jv,Jw,Y0,Jx,true_and]
  refine ⟨rfl, ?_⟩
  rw [ea _ _ _ (by rw [List.length_take, List.length_singleton]; omega), Y1]
  simp only [Y1,Qf,Qt,Qu,Qa,Qg,Qv,Qw,Qx,Qy,Qh,Qz,Jy,Qi,Qb,Qj,Qk,Q0,Jz,Q1,Q2,J0,Q3,Q4,J1,Ql,Qm,Qn,Q5,Qo,Q6,Qp,Q7,Q8,J2,Q9,Ja,J3,J4,J5,Jb,J6,J7,Jc,J8,J9,Jd,Je,Ya,Jf,Yb,Jg,Jh,Y8,Yc,Ji,Yd,Ye,Yf,Yg,Yh,Y2,Jj,Qq,Jk,Yi,Jl,Jm,Yj,Y3,Yk,Yl,Y4,Ym,Y5,Yn,Qc,Yo,Jn,Yp,Yq,Y6,Yr,Qd,Jo,Jp,Y7,Ys,Yt,Yu,Yv,Yw,Yx,Jq,Jr,Qr,Js,Yy,Qe,Qs,List.set_cons_zero,List.set_cons_succ,List.map_cons,List.map_nil,List.replicate,List.cons_append,List.nil_append,List.length_cons,List.length_nil,Bool.false_eq_true,eq_self,if_true,if_false,Nat.zero_add,Jt,Yz,Ju,Jv,Jw,Y0,Jx,true_and,e1,ed1]
  rw [ea _ _ _ (by rw [List.length_append, List.length_take, List.length_singleton, List.length_drop]; omega), Y1]
  simp only [Y1,Qf,Qt,Qu,Qa,Qg,Qv,Qw,Qx,Qy,Qh,Qz,Jy,Qi,Qb,Qj,Qk,Q0,Jz,Q1,Q2,J0,Q3,Q4,J1,Ql,Qm,Qn,Q5,Qo,Q6,Qp,Q7,Q8,J2,Q9,Ja,J3,J4,J5,Jb,J6,J7,Jc,J8,J9,Jd,Je,Ya,Jf,Yb,Jg,Jh,Y8,Yc,Ji,Yd,Ye,Yf,Yg,Yh,Y2,Jj,Qq,Jk,Yi,Jl,Jm,Yj,Y3,Yk,Yl,Y4,Ym,Y5,Yn,Qc,Yo,Jn,Yp,Yq,Y6,Yr,Qd,Jo,Jp,Y7,Ys,Yt,Yu,Yv,Yw,Yx,Jq,Jr,Qr,Js,Yy,Qe,Qs,List.set_cons_zero,List.set_cons_succ,List.map_cons,List.map_nil,List.replicate,List.cons_append,List.nil_append,List.length_cons,List.length_nil,Bool.false_eq_true,eq_self,if_true,if_false,Nat.zero_add,Jt,Yz,Ju,Jv,Jw,Y0,Jx,true_and]
  have wy2 := g2.w
  refine hR _ _ (bfinN P hf ⟨?_, ?_⟩ (by
    refine tn_tup.mpr ⟨by simp only [List.length_append, List.length_singleton, List.length_take, List.length_drop]; omega, fun e he => ?_⟩
    have q := (tn_tup.mp hlt).2
    rcases List.mem_append.mp he with h | h
    · rcases List.mem_append.mp h with h | h
      · have := q e (List.mem_of_mem_take h); omega
      · rw [List.mem_singleton.mp h]; omega
    · have := q e (List.mem_of_mem_drop h); omega) hw3 (by omega) (by omega))
  · rw [gp_tup]
    refine gps_all fun e he => ?_
    rcases List.mem_append.mp he with h | h
    · rcases List.mem_append.mp h with h | h
      · exact gp_up (by omega) (by omega) (gps_mem g e (List.mem_of_mem_take h)) (by omega)
      · rw [List.mem_singleton.mp h]; exact g2.g
    · exact gp_up (by omega) (by omega) (gps_mem g e (List.mem_of_mem_drop h)) (by omega)
  · rw [wb_tup, wbs_app, wbs_app]
    simp only [wbs]; omega
theorem bend_stepN {φt φo ψ : Phi} (hT : TakeS φt) (hO : OddTN φo) {j : Nat} (hψ : BendSN j ψ) : BendSN (j + 1) (fDef 3 5 (bBend φt φo ψ)) := by
  intro l m k n w t r d deep P hw hc hf hd0 hd1 hd hlt
  push_cast at hc
  have p2 := P.m99
  have p4 := P.k1
  have p5 := P.n1
  have p7 := P.n2
  have hg : gb n d = true := gp_gb (Nat.lt_of_lt_of_le p2 (by decide +kernel)) (by omega) hd.g
  rw [ok_def]
  refine ⟨rfl, ?_⟩
  unfold bBend
  obtain ⟨bA, hbA⟩ : ∃ b : Fn Ct, b = bBendA φt ψ := ⟨_, rfl⟩
  obtain ⟨bB, hbB⟩ : ∃ b : Fn Ct, b = bBendB φt φo := ⟨_, rfl⟩
  rw [← hbA, ← hbB]
  have rest : ∀ t2 : Tap, t2.Wf → t.calls ≤ t2.calls → t2.calls ≤ t.calls + 1 → OkE nX (bB [some (.loc 0), some d, some (.int deep), none, none] (tapOb t2 :: r)) (finK nX (r.length + 1) (BQN l m k n w t.calls (t.calls + 5 * (j + 1 : Nat)) r)) := fun t2 q1 q2 q3 =>
    bendBN hbB hT hO P hf q1 (by omega) q2 (by push_cast; omega) hd hlt
  simp only [Y1,Qf,Qt,Qu,Qa,Qg,Qv,Qw,Qx,Qy,Qh,Qz,Jy,Qi,Qb,Qj,Qk,Q0,Jz,Q1,Q2,J0,Q3,Q4,J1,Ql,Qm,Qn,Q5,Qo,Q6,Qp,Q7,Q8,J2,Q9,Ja,J3,J4,J5,Jb,J6,J7,Jc,J8,J9,Jd,Je,Ya,Jf,Yb,Jg,Jh,Y8,Yc,Ji,Yd,Ye,Yf,Yg,Yh,Y2,Jj,Qq,Jk,Yi,Jl,Jm,Yj,Y3,Yk,Yl,Y4,Ym,Y5,Yn,Qc,Yo,Jn,Yp,Yq,Y6,Yr,Qd,Jo,Jp,Y7,Ys,Yt,Yu,Yv,Yw,Yx,Jq,Jr,Qr,Js,Yy,Qe,Qs,List.set_cons_zero,List.set_cons_succ,List.map_cons,List.map_nil,List.replicate,List.cons_append,List.nil_append,List.length_cons,List.length_nil,Bool.false_eq_true,eq_self,if_true,if_false,Nat.zero_add,Jt,Yz,Ju,Jv,Jw,Y0,Jx,true_and,ok_isi,kIsi_ap]
  refine ⟨gb_okX hg, ?_⟩
  rw [ty_tup hg]
  cases e : isTupD d with
  | false =>
    simp only [Y1,Qf,Qt,Qu,Qa,Qg,Qv,Qw,Qx,Qy,Qh,Qz,Jy,Qi,Qb,Qj,Qk,Q0,Jz,Q1,Q2,J0,Q3,Q4,J1,Ql,Qm,Qn,Q5,Qo,Q6,Qp,Q7,Q8,J2,Q9,Ja,J3,J4,J5,Jb,J6,J7,Jc,J8,J9,Jd,Je,Ya,Jf,Yb,Jg,Jh,Y8,Yc,Ji,Yd,Ye,Yf,Yg,Yh,Y2,Jj,Qq,Jk,Yi,Jl,Jm,Yj,Y3,Yk,Yl,Y4,Ym,Y5,Yn,Qc,Yo,Jn,Yp,Yq,Y6,Yr,Qd,Jo,Jp,Y7,Ys,Yt,Yu,Yv,Yw,Yx,Jq,Jr,Qr,Js,Yy,Qe,Qs,List.set_cons_zero,List.set_cons_succ,List.map_cons,List.map_nil,List.replicate,List.cons_append,List.nil_append,List.length_cons,List.length_nil,Bool.false_eq_true,eq_self,if_true,if_false,Nat.zero_add,Jt,Yz,Ju,Jv,Jw,Y0,Jx,true_and]
    exact rest t hw (Int.le_refl _) (by omega)
  | true =>
    obtain ⟨ds, rfl⟩ : ∃ ds, d = .tup ds := by
      cases d with
      | tup ds => exact ⟨ds, rfl⟩
      | _ => cases e
    have hne : ∀ s : Sto, gNe (.tup ds) (.tup []) s = .ok (.bl (!ds.isEmpty)) s := fun s => by
      obtain ⟨i, rfl⟩ : ∃ j, n = j + 1 := ⟨n - 1, by omega⟩
      rw [gb_tup] at hg
      show (gEq (.tup ds) (.tup []) s).bind _ = _
      rw [eqT_nil hg (by omega)]; rfl
    simp only [Y1,Qf,Qt,Qu,Qa,Qg,Qv,Qw,Qx,Qy,Qh,Qz,Jy,Qi,Qb,Qj,Qk,Q0,Jz,Q1,Q2,J0,Q3,Q4,J1,Ql,Qm,Qn,Q5,Qo,Q6,Qp,Q7,Q8,J2,Q9,Ja,J3,J4,J5,Jb,J6,J7,Jc,J8,J9,Jd,Je,Ya,Jf,Yb,Jg,Jh,Y8,Yc,Ji,Yd,Ye,Yf,Yg,Yh,Y2,Jj,Qq,Jk,Yi,Jl,Jm,Yj,Y3,Yk,Yl,Y4,Ym,Y5,Yn,Qc,Yo,Jn,Yp,Yq,Y6,Yr,Qd,Jo,Jp,Y7,Ys,Yt,Yu,Yv,Yw,Yx,Jq,Jr,Qr,Js,Yy,Qe,Qs,List.set_cons_zero,List.set_cons_succ,List.map_cons,List.map_nil,List.replicate,List.cons_append,List.nil_append,List.length_cons,List.length_nil,Bool.false_eq_true,eq_self,if_true,if_false,Nat.zero_add,Jt,Yz,Ju,Jv,Jw,Y0,Jx,true_and,hne]
    cases e2 : ds.isEmpty with
    | true =>
      simp only [Y1,Qf,Qt,Qu,Qa,Qg,Qv,Qw,Qx,Qy,Qh,Qz,Jy,Qi,Qb,Qj,Qk,Q0,Jz,Q1,Q2,J0,Q3,Q4,J1,Ql,Qm,Qn,Q5,Qo,Q6,Qp,Q7,Q8,J2,Q9,Ja,J3,J4,J5,Jb,J6,J7,Jc,J8,J9,Jd,Je,Ya,Jf,Yb,Jg,Jh,Y8,Yc,Ji,Yd,Ye,Yf,Yg,Yh,Y2,Jj,Qq,Jk,Yi,Jl,Jm,Yj,Y3,Yk,Yl,Y4,Ym,Y5,Yn,Qc,Yo,Jn,Yp,Yq,Y6,Yr,Qd,Jo,Jp,Y7,Ys,Yt,Yu,Yv,Yw,Yx,Jq,Jr,Qr,Js,Yy,Qe,Qs,List.set_cons_zero,List.set_cons_succ,List.map_cons,List.map_nil,List.replicate,List.cons_append,List.nil_append,List.length_cons,List.length_nil,Bool.false_eq_true,eq_self,if_true,if_false,Nat.zero_add,Jt,Yz,Ju,Jv,Jw,Y0,Jx,true_and,Bool.not_true]
      exact ⟨rfl, rest t hw (Int.le_refl _) (by omega)⟩
    | false =>
      have hl : 0 < ds.length := by
        cases ds with
        | nil => cases e2
        | cons x l => simp
      simp only [Y1,Qf,Qt,Qu,Qa,Qg,Qv,Qw,Qx,Qy,Qh,Qz,Jy,Qi,Qb,Qj,Qk,Q0,Jz,Q1,Q2,J0,Q3,Q4,J1,Ql,Qm,Qn,Q5,Qo,Q6,Qp,Q7,Q8,J2,Q9,Ja,J3,J4,J5,Jb,J6,J7,Jc,J8,J9,Jd,Je,Ya,Jf,Yb,Jg,Jh,Y8,Yc,Ji,Yd,Ye,Yf,Yg,Yh,Y2,Jj,Qq,Jk,Yi,Jl,Jm,Yj,Y3,Yk,Yl,Y4,Ym,Y5,Yn,Qc,Yo,Jn,Yp,Yq,Y6,Yr,Qd,Jo,Jp,Y7,Ys,Yt,Yu,Yv,Yw,Yx,Jq,Jr,Qr,Js,Yy,Qe,Qs,List.set_cons_zero,List.set_cons_succ,List.map_cons,List.map_nil,List.replicate,List.cons_append,List.nil_append,List.length_cons,List.length_nil,Bool.false_eq_true,eq_self,if_true,if_false,Nat.zero_add,Jt,Yz,Ju,Jv,Jw,Y0,Jx,true_and,Bool.not_false,gt_int]
      by_cases hdp : 0 < deep
      · rw [decide_eq_true hdp]
        simp only [Y1,Qf,Qt,Qu,Qa,Qg,Qv,Qw,Qx,Qy,Qh,Qz,Jy,Qi,Qb,Qj,Qk,Q0,Jz,Q1,Q2,J0,Q3,Q4,J1,Ql,Qm,Qn,Q5,Qo,Q6,Qp,Q7,Q8,J2,Q9,Ja,J3,J4,J5,Jb,J6,J7,Jc,J8,J9,Jd,Je,Ya,Jf,Yb,Jg,Jh,Y8,Yc,Ji,Yd,Ye,Yf,Yg,Yh,Y2,Jj,Qq,Jk,Yi,Jl,Jm,Yj,Y3,Yk,Yl,Y4,Ym,Y5,Yn,Qc,Yo,Jn,Yp,Yq,Y6,Yr,Qd,Jo,Jp,Y7,Ys,Yt,Yu,Yv,Yw,Yx,Jq,Jr,Qr,Js,Yy,Qe,Qs,List.set_cons_zero,List.set_cons_succ,List.map_cons,List.map_nil,List.replicate,List.cons_append,List.nil_append,List.length_cons,List.length_nil,Bool.false_eq_true,eq_self,if_true,if_false,Nat.zero_add,Jt,Yz,Ju,Jv,Jw,Y0,Jx,true_and]
        refine ⟨rfl, ?_⟩
        refine (hT t r 3 hw (by omega) (by decide) (by decide) hf).mono ?_
        rintro d' s ⟨x, t2, rfl, hx0, hx1, rfl, hw2, hc2⟩
        simp only [Y1,Qf,Qt,Qu,Qa,Qg,Qv,Qw,Qx,Qy,Qh,Qz,Jy,Qi,Qb,Qj,Qk,Q0,Jz,Q1,Q2,J0,Q3,Q4,J1,Ql,Qm,Qn,Q5,Qo,Q6,Qp,Q7,Q8,J2,Q9,Ja,J3,J4,J5,Jb,J6,J7,Jc,J8,J9,Jd,Je,Ya,Jf,Yb,Jg,Jh,Y8,Yc,Ji,Yd,Ye,Yf,Yg,Yh,Y2,Jj,Qq,Jk,Yi,Jl,Jm,Yj,Y3,Yk,Yl,Y4,Ym,Y5,Yn,Qc,Yo,Jn,Yp,Yq,Y6,Yr,Qd,Jo,Jp,Y7,Ys,Yt,Yu,Yv,Yw,Yx,Jq,Jr,Qr,Js,Yy,Qe,Qs,List.set_cons_zero,List.set_cons_succ,List.map_cons,List.map_nil,List.replicate,List.cons_append,List.nil_append,List.length_cons,List.length_nil,Bool.false_eq_true,eq_self,if_true,if_false,Nat.zero_add,Jt,Yz,Ju,Jv,Jw,Y0,Jx,true_and,gt_int]
        by_cases hx : 0 < x
        · rw [decide_eq_true hx]
          simp only [Y1,Qf,Qt,Qu,Qa,Qg,Qv,Qw,Qx,Qy,Qh,Qz,Jy,Qi,Qb,Qj,Qk,Q0,Jz,Q1,Q2,J0,Q3,Q4,J1,Ql,Qm,Qn,Q5,Qo,Q6,Qp,Q7,Q8,J2,Q9,Ja,J3,J4,J5,Jb,J6,J7,Jc,J8,J9,Jd,Je,Ya,Jf,Yb,Jg,Jh,Y8,Yc,Ji,Yd,Ye,Yf,Yg,Yh,Y2,Jj,Qq,Jk,Yi,Jl,Jm,Yj,Y3,Yk,Yl,Y4,Ym,Y5,Yn,Qc,Yo,Jn,Yp,Yq,Y6,Yr,Qd,Jo,Jp,Y7,Ys,Yt,Yu,Yv,Yw,Yx,Jq,Jr,Qr,Js,Yy,Qe,Qs,List.set_cons_zero,List.set_cons_succ,List.map_cons,List.map_nil,List.replicate,List.cons_append,List.nil_append,List.length_cons,List.length_nil,Bool.false_eq_true,eq_self,if_true,if_false,Nat.zero_add,Jt,Yz,Ju,Jv,Jw,Y0,Jx,true_and]
          exact bendAN hbA hT hψ P hf hw2 (by omega) (by omega) (by push_cast; omega) hd hlt hl hdp (by omega) fun _ _ h => h
        · rw [decide_eq_false hx]
          simp only [Y1,Qf,Qt,Qu,Qa,Qg,Qv,Qw,Qx,Qy,Qh,Qz,Jy,Qi,Qb,Qj,Qk,Q0,Jz,Q1,Q2,J0,Q3,Q4,J1,Ql,Qm,Qn,Q5,Qo,Q6,Qp,Q7,Q8,J2,Q9,Ja,J3,J4,J5,Jb,J6,J7,Jc,J8,J9,Jd,Je,Ya,Jf,Yb,Jg,Jh,Y8,Yc,Ji,Yd,Ye,Yf,Yg,Yh,Y2,Jj,Qq,Jk,Yi,Jl,Jm,Yj,Y3,Yk,Yl,Y4,Ym,Y5,Yn,Qc,Yo,Jn,Yp,Yq,Y6,Yr,Qd,Jo,Jp,Y7,Ys,Yt,Yu,Yv,Yw,Yx,Jq,Jr,Qr,Js,Yy,Qe,Qs,List.set_cons_zero,List.set_cons_succ,List.map_cons,List.map_nil,List.replicate,List.cons_append,List.nil_append,List.length_cons,List.length_nil,Bool.false_eq_true,eq_self,if_true,if_false,Nat.zero_add,Jt,Yz,Ju,Jv,Jw,Y0,Jx,true_and]
          exact rest t2 hw2 (by omega) (by omega)
      · rw [decide_eq_false hdp]
        simp only [Y1,Qf,Qt,Qu,Qa,Qg,Qv,Qw,Qx,Qy,Qh,Qz,Jy,Qi,Qb,Qj,Qk,Q0,Jz,Q1,Q2,J0,Q3,Q4,J1,Ql,Qm,Qn,Q5,Qo,Q6,Qp,Q7,Q8,J2,Q9,Ja,J3,J4,J5,Jb,J6,J7,Jc,J8,J9,Jd,Je,Ya,Jf,Yb,Jg,Jh,Y8,Yc,Ji,Yd,Ye,Yf,Yg,Yh,Y2,Jj,Qq,Jk,Yi,Jl,Jm,Yj,Y3,Yk,Yl,Y4,Ym,Y5,Yn,Qc,Yo,Jn,Yp,Yq,Y6,Yr,Qd,Jo,Jp,Y7,Ys,Yt,Yu,Yv,Yw,Yx,Jq,Jr,Qr,Js,Yy,Qe,Qs,List.set_cons_zero,List.set_cons_succ,List.map_cons,List.map_nil,List.replicate,List.cons_append,List.nil_append,List.length_cons,List.length_nil,Bool.false_eq_true,eq_self,if_true,if_false,Nat.zero_add,Jt,Yz,Ju,Jv,Jw,Y0,Jx,true_and]
        exact ⟨rfl, rest t hw (Int.le_refl _) (by omega)⟩
theorem bend0N (φ : Phi) : BendSN 0 φ := fun l m k n w t r d deep P hw hc hf h0 h1 hd hlt => by
  exfalso
  have : ((0 : Nat) : Int) = 0 := rfl
  omega
theorem bend_allN {φt φo : Phi} (hT : TakeS φt) (hO : OddTN φo) : ∀ j : Nat, BendSN j (recZ 3 5 (bBend φt φo) j)
  | 0 => bend0N _
  | j + 1 => bend_stepN hT hO (bend_allN hT hO j)
end Z

namespace Z
open PySem PySem.Spec L2

/-! ### k05: a count by kind -/
theorem ok_mapA {α : Type} {chk : Sto → Bool} {own : List Nat} {g : Dv → Fn En} {te : Fn Dv} {enc f : α → Dv} {xs : List α} {env : En} {s : Sto} {L : List Dv → Sto → Prop} (hc : chk s = true)
    (hh : ∀ x ∈ xs, OkE nX (g (enc x) (wipeZ env own) s) fun env1 s1 => OkE nX (te env1 s1) fun y s3 => y = f x ∧ s3 = s) (hL : L (xs.map f) s) : OkE nX (lcZ chk own g fYes te (xs.map enc) env s) L := by
  refine ok_lcI (fun j acc s' => acc = (xs.take j).map f ∧ s' = s) (fun _ _ _ h => by rw [h.2]; exact hc) (fun j d acc s' hd hi => ?_) (fun acc s' hi => ?_) ⟨by simp, rfl⟩
  · obtain ⟨rfl, rfl⟩ := hi
    rw [List.getElem?_map] at hd
    obtain ⟨x, hx, rfl⟩ := Option.map_eq_some_iff.mp hd
    refine (hh x (List.mem_of_getElem? hx)).mono fun env1 s1 h1 => ?_
    rw [Yr]
    refine h1.mono fun y s3 h3 => ?_
    obtain ⟨rfl, rfl⟩ := h3
    refine ⟨?_, rfl⟩
    rw [take_succ' hx, List.map_append]; rfl
  · obtain ⟨rfl, rfl⟩ := hi
    rw [List.length_map, List.take_length]
    exact hL
theorem tl_tn (d : Dv) : tl d ≤ tn d := by
  cases d <;> simp [tl, tn]
  omega
def ltAt (ys : List Str) (i : Nat) : Bool := match ys[i]?, ys[i + 1]? with | some a, some b => strLt a b | _, _ => true
def risS (ys : List Str) : Bool := (List.range (ys.length - 1)).all (ltAt ys)
def namesD (zs : List Str) : Dv → Bool
  | .tup ds => ds.all isWordD && (match strs? ds with | some ys => ys.all (fun y => decide (y ∈ zs)) && risS ys | none => false)
  | _ => false
theorem names_no {zs : List Str} {d : Dv} (h : areWordsD d = false) : namesD zs d = false := by
  cases d with
  | tup ds =>
    have h : ds.all isWordD = false := h
    simp only [namesD, h, Bool.false_and]
  | _ => rfl
theorem words_tup {d : Dv} (h : areWordsD d = true) : ∃ ys : List Str, d = .tup (ys.map .str) ∧ (ys.map Dv.str).all isWordD = true := by
  cases d with
  | tup ds =>
    obtain ⟨ys, rfl⟩ := words_dec (show ds.all isWordD = true from h)
    exact ⟨ys, rfl, h⟩
  | _ => cases h
theorem names_yes {zs ys : List Str} (h : (ys.map Dv.str).all isWordD = true) : namesD zs (.tup (ys.map .str)) = (ys.all (fun y => decide (y ∈ zs)) && risS ys) := by
  simp only [namesD, h, strs?_map, Bool.true_and]
def NamS (φ : Phi) : Prop := ∀ (zs : List Str) (d : Dv) (s : Sto) (T : Dv → Sto → Prop), Thg d → T (.bl (namesD zs d)) s → OkE nX (φ [encS zs, d] s) T
def bNames9 (φw : Phi) : Fn Ct :=
  fSeq (fIfS (fOrT (fNotT (fTest (fCall φw (fCons (fVar 1) (fNil))))) (fNotT (fTest (fCall gAll (fCons (fVal (fLc (fSrc (fVar 1)) [3] (gNm 3) (fYes) (fBin gIn (fVar 3) (fVar 0)))) (fNil)))))) (fRet (fC (.bl false))) (fNop))
  (fRet (fCall gAll (fCons (fVal (fLc (fRng2 (fCons (fC (.int 1)) (fCons (fCall gLen (fCons (fVar 1) (fNil))) (fNil)))) [2] (gNm 2) (fYes) (fBin gLt (fBin gIx (fVar 1) (fBin gSub (fVar 2) (fC (.int 1)))) (fBin gIx (fVar 1) (fVar 2))))) (fNil))))
theorem at_pair {ys : List Str} {i : Nat} (hi : i < ys.length - 1) : ∃ a b : Str, ys[i]? = some a ∧ ys[i + 1]? = some b ∧ ltAt ys i = strLt a b ∧ (∀ s : Sto, gIx (.tup (ys.map .str)) (.int (1 + (i : Int) - 1)) s = .ok (.str a) s) ∧ ∀ s : Sto, gIx (.tup (ys.map .str)) (.int (1 + (i : Int))) s = .ok (.str b) s := by
  have g0 : ys[i]? = some ys[i] := List.getElem?_eq_getElem (by omega)
  have g1 : ys[i + 1]? = some ys[i + 1] := List.getElem?_eq_getElem (by omega)
  refine ⟨_, _, g0, g1, by simp only [ltAt, g0, g1], fun s => ix_tup (by omega) ?_, fun s => ix_tup (by omega) ?_⟩
  · rw [show (1 + (i : Int) - 1).toNat = i by omega, List.getElem?_map, g0]; rfl
  · rw [show (1 + (i : Int)).toNat = i + 1 by omega, List.getElem?_map, g1]; rfl
theorem names9_spec {φw : Phi} (hw : ThS φw areWordsD) : NamS (fDef 2 4 (bNames9 φw)) := by
  intro zs d s T h hT
  rw [ok_def]
  refine ⟨rfl, ?_⟩
  unfold bNames9
  simp only [Y1,Qf,Qt,Qu,Qa,Qg,Qv,Qw,Qx,Qy,Qh,Qz,Jy,Qi,Qb,Qj,Qk,Q0,Jz,Q1,Q2,J0,Q3,Q4,J1,Ql,Qm,Qn,Q5,Qo,Q6,Qp,Q7,Q8,J2,Q9,Ja,J3,J4,J5,Jb,J6,J7,Jc,J8,J9,Jd,Je,Ya,Jf,Yb,Jg,Jh,Y8,Yc,Ji,Yd,Ye,Yf,Yg,Yh,Y2,Jj,Qq,Jk,Yi,Jl,Jm,Yj,Y3,Yk,Yl,Y4,Ym,Y5,Yn,Qc,Yo,Jn,Yp,Yq,Y6,Yr,Qd,Jo,Jp,Y7,Ys,Yt,Yu,Yv,Yw,Yx,Jq,Jr,Qr,Js,Yy,Qe,Qs,List.set_cons_zero,List.set_cons_succ,List.map_cons,List.map_nil,List.replicate,List.cons_append,List.nil_append,List.length_cons,List.length_nil,Bool.false_eq_true,eq_self,if_true,if_false,Nat.zero_add,Jt,Yz,Ju,Jv,Jw,Y0,Jx,true_and]
  refine hw d s _ h ?_
  cases e : areWordsD d with
  | false =>
    rw [names_no e] at hT
    simp only [Y1,Qf,Qt,Qu,Qa,Qg,Qv,Qw,Qx,Qy,Qh,Qz,Jy,Qi,Qb,Qj,Qk,Q0,Jz,Q1,Q2,J0,Q3,Q4,J1,Ql,Qm,Qn,Q5,Qo,Q6,Qp,Q7,Q8,J2,Q9,Ja,J3,J4,J5,Jb,J6,J7,Jc,J8,J9,Jd,Je,Ya,Jf,Yb,Jg,Jh,Y8,Yc,Ji,Yd,Ye,Yf,Yg,Yh,Y2,Jj,Qq,Jk,Yi,Jl,Jm,Yj,Y3,Yk,Yl,Y4,Ym,Y5,Yn,Qc,Yo,Jn,Yp,Yq,Y6,Yr,Qd,Jo,Jp,Y7,Ys,Yt,Yu,Yv,Yw,Yx,Jq,Jr,Qr,Js,Yy,Qe,Qs,List.set_cons_zero,List.set_cons_succ,List.map_cons,List.map_nil,List.replicate,List.cons_append,List.nil_append,List.length_cons,List.length_nil,Bool.false_eq_true,eq_self,if_true,if_false,Nat.zero_add,Jt,Yz,Ju,Jv,Jw,Y0,Jx,true_and,Bool.not_false]
    exact fin_any (fun n => nofun) hT
  | true =>
    obtain ⟨ys, rfl, hy⟩ := words_tup e
    rw [names_yes hy] at hT
    obtain ⟨g, gw, gl⟩ := h.tup
    rw [List.length_map] at gl
    simp only [Y1,Qf,Qt,Qu,Qa,Qg,Qv,Qw,Qx,Qy,Qh,Qz,Jy,Qi,Qb,Qj,Qk,Q0,Jz,Q1,Q2,J0,Q3,Q4,J1,Ql,Qm,Qn,Q5,Qo,Q6,Qp,Q7,Q8,J2,Q9,Ja,J3,J4,J5,Jb,J6,J7,Jc,J8,J9,Jd,Je,Ya,Jf,Yb,Jg,Jh,Y8,Yc,Ji,Yd,Ye,Yf,Yg,Yh,Y2,Jj,Qq,Jk,Yi,Jl,Jm,Yj,Y3,Yk,Yl,Y4,Ym,Y5,Yn,Qc,Yo,Jn,Yp,Yq,Y6,Yr,Qd,Jo,Jp,Y7,Ys,Yt,Yu,Yv,Yw,Yx,Jq,Jr,Qr,Js,Yy,Qe,Qs,List.set_cons_zero,List.set_cons_succ,List.map_cons,List.map_nil,List.replicate,List.cons_append,List.nil_append,List.length_cons,List.length_nil,Bool.false_eq_true,eq_self,if_true,if_false,Nat.zero_add,Jt,Yz,Ju,Jv,Jw,Y0,Jx,true_and,Bool.not_true]
    refine ⟨decide_eq_true (by rw [List.length_map]; omega), ?_⟩
    refine ok_mapA (enc := Dv.str) (f := fun y : Str => Dv.bl (decide (y ∈ zs))) rfl (fun y hy => ?_) ?_
    · simp only [Y1,Qf,Qt,Qu,Qa,Qg,Qv,Qw,Qx,Qy,Qh,Qz,Jy,Qi,Qb,Qj,Qk,Q0,Jz,Q1,Q2,J0,Q3,Q4,J1,Ql,Qm,Qn,Q5,Qo,Q6,Qp,Q7,Q8,J2,Q9,Ja,J3,J4,J5,Jb,J6,J7,Jc,J8,J9,Jd,Je,Ya,Jf,Yb,Jg,Jh,Y8,Yc,Ji,Yd,Ye,Yf,Yg,Yh,Y2,Jj,Qq,Jk,Yi,Jl,Jm,Yj,Y3,Yk,Yl,Y4,Ym,Y5,Yn,Qc,Yo,Jn,Yp,Yq,Y6,Yr,Qd,Jo,Jp,Y7,Ys,Yt,Yu,Yv,Yw,Yx,Jq,Jr,Qr,Js,Yy,Qe,Qs,List.set_cons_zero,List.set_cons_succ,List.map_cons,List.map_nil,List.replicate,List.cons_append,List.nil_append,List.length_cons,List.length_nil,Bool.false_eq_true,eq_self,if_true,if_false,Nat.zero_add,Jt,Yz,Ju,Jv,Jw,Y0,Jx,true_and,wipeZ,in_strs]
      all_goals first | trivial | exact ⟨rfl, trivial⟩ | exact ⟨rfl, rfl⟩
    simp only [Y1,Qf,Qt,Qu,Qa,Qg,Qv,Qw,Qx,Qy,Qh,Qz,Jy,Qi,Qb,Qj,Qk,Q0,Jz,Q1,Q2,J0,Q3,Q4,J1,Ql,Qm,Qn,Q5,Qo,Q6,Qp,Q7,Q8,J2,Q9,Ja,J3,J4,J5,Jb,J6,J7,Jc,J8,J9,Jd,Je,Ya,Jf,Yb,Jg,Jh,Y8,Yc,Ji,Yd,Ye,Yf,Yg,Yh,Y2,Jj,Qq,Jk,Yi,Jl,Jm,Yj,Y3,Yk,Yl,Y4,Ym,Y5,Yn,Qc,Yo,Jn,Yp,Yq,Y6,Yr,Qd,Jo,Jp,Y7,Ys,Yt,Yu,Yv,Yw,Yx,Jq,Jr,Qr,Js,Yy,Qe,Qs,List.set_cons_zero,List.set_cons_succ,List.map_cons,List.map_nil,List.replicate,List.cons_append,List.nil_append,List.length_cons,List.length_nil,Bool.false_eq_true,eq_self,if_true,if_false,Nat.zero_add,Jt,Yz,Ju,Jv,Jw,Y0,Jx,true_and,all_map]
    cases e2 : ys.all (fun y => decide (y ∈ zs)) with
    | false =>
      rw [e2] at hT
      simp only [Y1,Qf,Qt,Qu,Qa,Qg,Qv,Qw,Qx,Qy,Qh,Qz,Jy,Qi,Qb,Qj,Qk,Q0,Jz,Q1,Q2,J0,Q3,Q4,J1,Ql,Qm,Qn,Q5,Qo,Q6,Qp,Q7,Q8,J2,Q9,Ja,J3,J4,J5,Jb,J6,J7,Jc,J8,J9,Jd,Je,Ya,Jf,Yb,Jg,Jh,Y8,Yc,Ji,Yd,Ye,Yf,Yg,Yh,Y2,Jj,Qq,Jk,Yi,Jl,Jm,Yj,Y3,Yk,Yl,Y4,Ym,Y5,Yn,Qc,Yo,Jn,Yp,Yq,Y6,Yr,Qd,Jo,Jp,Y7,Ys,Yt,Yu,Yv,Yw,Yx,Jq,Jr,Qr,Js,Yy,Qe,Qs,List.set_cons_zero,List.set_cons_succ,List.map_cons,List.map_nil,List.replicate,List.cons_append,List.nil_append,List.length_cons,List.length_nil,Bool.false_eq_true,eq_self,if_true,if_false,Nat.zero_add,Jt,Yz,Ju,Jv,Jw,Y0,Jx,true_and,Bool.not_false]
      exact fin_any (fun n => nofun) hT
    | true =>
      rw [e2] at hT
      simp only [Y1,Qf,Qt,Qu,Qa,Qg,Qv,Qw,Qx,Qy,Qh,Qz,Jy,Qi,Qb,Qj,Qk,Q0,Jz,Q1,Q2,J0,Q3,Q4,J1,Ql,Qm,Qn,Q5,Qo,Q6,Qp,Q7,Q8,J2,Q9,Ja,J3,J4,J5,Jb,J6,J7,Jc,J8,J9,Jd,Je,Ya,Jf,Yb,Jg,Jh,Y8,Yc,Ji,Yd,Ye,Yf,Yg,Yh,Y2,Jj,Qq,Jk,Yi,Jl,Jm,Yj,Y3,Yk,Yl,Y4,Ym,Y5,Yn,Qc,Yo,Jn,Yp,Yq,Y6,Yr,Qd,Jo,Jp,Y7,Ys,Yt,Yu,Yv,Yw,Yx,Jq,Jr,Qr,Js,Yy,Qe,Qs,List.set_cons_zero,List.set_cons_succ,List.map_cons,List.map_nil,List.replicate,List.cons_append,List.nil_append,List.length_cons,List.length_nil,Bool.false_eq_true,eq_self,if_true,if_false,Nat.zero_add,Jt,Yz,Ju,Jv,Jw,Y0,Jx,true_and,Bool.not_true,len_tup,List.length_map]
      refine ⟨?_, ?_⟩
      · rw [Bool.and_eq_true]
        exact ⟨inRng_small (by decide) (by decide), inRng_small (by omega) (by omega)⟩
      refine ⟨decide_eq_true (by rw [rngD_len]; omega), ?_⟩
      have hn : ((ys.length : Int) - 1).toNat = ys.length - 1 := by omega
      rw [hn]
      unfold rngD
      refine ok_mapA (enc := fun (i : Nat) => Dv.int (1 + (i : Int))) (f := fun i : Nat => Dv.bl (ltAt ys i)) rfl (fun i hi => ?_) ?_
      · obtain ⟨a, b, _, _, el, ea, eb⟩ := at_pair (List.mem_range.mp hi)
        rw [el]
        have elt : ∀ s : Sto, gLt (.str a) (.str b) s = .ok (.bl (strLt a b)) s := fun s => rfl
        simp only [Y1,Qf,Qt,Qu,Qa,Qg,Qv,Qw,Qx,Qy,Qh,Qz,Jy,Qi,Qb,Qj,Qk,Q0,Jz,Q1,Q2,J0,Q3,Q4,J1,Ql,Qm,Qn,Q5,Qo,Q6,Qp,Q7,Q8,J2,Q9,Ja,J3,J4,J5,Jb,J6,J7,Jc,J8,J9,Jd,Je,Ya,Jf,Yb,Jg,Jh,Y8,Yc,Ji,Yd,Ye,Yf,Yg,Yh,Y2,Jj,Qq,Jk,Yi,Jl,Jm,Yj,Y3,Yk,Yl,Y4,Ym,Y5,Yn,Qc,Yo,Jn,Yp,Yq,Y6,Yr,Qd,Jo,Jp,Y7,Ys,Yt,Yu,Yv,Yw,Yx,Jq,Jr,Qr,Js,Yy,Qe,Qs,List.set_cons_zero,List.set_cons_succ,List.map_cons,List.map_nil,List.replicate,List.cons_append,List.nil_append,List.length_cons,List.length_nil,Bool.false_eq_true,eq_self,if_true,if_false,Nat.zero_add,Jt,Yz,Ju,Jv,Jw,Y0,Jx,true_and,wipeZ,sub_int,ea,eb,elt]
        all_goals first | trivial | exact ⟨rfl, trivial⟩ | exact ⟨rfl, rfl⟩
      simp only [Y1,Qf,Qt,Qu,Qa,Qg,Qv,Qw,Qx,Qy,Qh,Qz,Jy,Qi,Qb,Qj,Qk,Q0,Jz,Q1,Q2,J0,Q3,Q4,J1,Ql,Qm,Qn,Q5,Qo,Q6,Qp,Q7,Q8,J2,Q9,Ja,J3,J4,J5,Jb,J6,J7,Jc,J8,J9,Jd,Je,Ya,Jf,Yb,Jg,Jh,Y8,Yc,Ji,Yd,Ye,Yf,Yg,Yh,Y2,Jj,Qq,Jk,Yi,Jl,Jm,Yj,Y3,Yk,Yl,Y4,Ym,Y5,Yn,Qc,Yo,Jn,Yp,Yq,Y6,Yr,Qd,Jo,Jp,Y7,Ys,Yt,Yu,Yv,Yw,Yx,Jq,Jr,Qr,Js,Yy,Qe,Qs,List.set_cons_zero,List.set_cons_succ,List.map_cons,List.map_nil,List.replicate,List.cons_append,List.nil_append,List.length_cons,List.length_nil,Bool.false_eq_true,eq_self,if_true,if_false,Nat.zero_add,Jt,Yz,Ju,Jv,Jw,Y0,Jx,true_and,all_map]
      exact fin_any (fun n => nofun) hT
/-! ### a pile -/
def inZ (zs : List Str) : Dv → Bool
  | .str z => decide (z ∈ zs)
  | _ => false
def offD : Dv → Dv → Bool
  | .str z, .tup es => (match strs? es with | some ys => !decide (z ∈ ys) | none => false)
  | _, _ => false
theorem offD_str {z : Str} {ys : List Str} : offD (.str z) (.tup (ys.map .str)) = !decide (z ∈ ys) := by simp only [offD, strs?_map]
def pileD (zs : List Str) : Dv → Bool
  | .tup [a, b, c, e] => (isWordD a && inZ zs a) && (isFromD b && (isFromD c && (namesD zs e && offD a e)))
  | _ => false
theorem pile_not4 {zs : List Str} {ds : List Dv} (h : ds.length ≠ 4) : pileD zs (.tup ds) = false := by
  match ds, h with
  | [], _ => rfl
  | [_], _ => rfl
  | [_, _], _ => rfl
  | [_, _, _], _ => rfl
  | [_, _, _, _], h => exact absurd rfl h
  | _ :: _ :: _ :: _ :: _ :: _, _ => rfl
theorem pile_notT {zs : List Str} {d : Dv} (h : isTupD d = false) : pileD zs d = false := by
  cases d with
  | tup ds => cases h
  | _ => rfl
theorem four_of {ds : List Dv} (h : ds.length = 4) : ∃ a b c e, ds = [a, b, c, e] := by
  match ds, h with
  | [a, b, c, e], _ => exact ⟨a, b, c, e, rfl⟩
theorem word_is {d : Dv} (h : isWordD d = true) : ∃ z : Str, d = .str z := by
  cases d with
  | str z => exact ⟨z, rfl⟩
  | _ => cases h
def PilS (φ : Phi) : Prop := ∀ (zs : List Str) (d : Dv) (s : Sto) (T : Dv → Sto → Prop), Thg d → T (.bl (pileD zs d)) s → OkE nX (φ [encS zs, d] s) T
def bPile10 (φs φf φn : Phi) : Fn Ct :=
  fSeq (fIfS (fOrT (fNotT (fTest (fIsi "tuple" (fVar 1)))) (fOrT (fTest (fBin gNe (fCall gLen (fCons (fVar 1) (fNil))) (fC (.int 4)))) (fOrT (fNotT (fTest (fCall φs (fCons (fSl (fVar 1) (fNoPart) (fPart (fC (.int 1)))) (fNil))))) (fTest (fBin gNotIn (fBin gIx (fVar 1) (fC (.int 0))) (fVar 0)))))) (fRet (fC (.bl false))) (fNop))
  (fRet (fAnd (fCall φf (fCons (fBin gIx (fVar 1) (fC (.int 1))) (fNil))) (fAnd (fCall φf (fCons (fBin gIx (fVar 1) (fC (.int 2))) (fNil))) (fAnd (fCall φn (fCons (fVar 0) (fCons (fBin gIx (fVar 1) (fC (.int 3))) (fNil)))) (fBin gNotIn (fBin gIx (fVar 1) (fC (.int 0))) (fBin gIx (fVar 1) (fC (.int 3))))))))
theorem names_tup {zs : List Str} {e : Dv} (h : namesD zs e = true) : ∃ ys : List Str, e = .tup (ys.map .str) := by
  cases e with
  | tup ds =>
    have h : (ds.all isWordD && _) = true := h
    rw [Bool.and_eq_true] at h
    obtain ⟨ys, rfl⟩ := words_dec h.1
    exact ⟨ys, rfl⟩
  | _ => cases h
theorem pile10_spec {φs φf φn : Phi} (hs : ThS φs areWordsD) (hf : ThS φf isFromD) (hn : NamS φn) : PilS (fDef 2 2 (bPile10 φs φf φn)) := by
  intro zs d s T h hT
  rw [ok_def]
  refine ⟨rfl, ?_⟩
  unfold bPile10
  simp only [Y1,Qf,Qt,Qu,Qa,Qg,Qv,Qw,Qx,Qy,Qh,Qz,Jy,Qi,Qb,Qj,Qk,Q0,Jz,Q1,Q2,J0,Q3,Q4,J1,Ql,Qm,Qn,Q5,Qo,Q6,Qp,Q7,Q8,J2,Q9,Ja,J3,J4,J5,Jb,J6,J7,Jc,J8,J9,Jd,Je,Ya,Jf,Yb,Jg,Jh,Y8,Yc,Ji,Yd,Ye,Yf,Yg,Yh,Y2,Jj,Qq,Jk,Yi,Jl,Jm,Yj,Y3,Yk,Yl,Y4,Ym,Y5,Yn,Qc,Yo,Jn,Yp,Yq,Y6,Yr,Qd,Jo,Jp,Y7,Ys,Yt,Yu,Yv,Yw,Yx,Jq,Jr,Qr,Js,Yy,Qe,Qs,List.set_cons_zero,List.set_cons_succ,List.map_cons,List.map_nil,List.replicate,List.cons_append,List.nil_append,List.length_cons,List.length_nil,Bool.false_eq_true,eq_self,if_true,if_false,Nat.zero_add,Jt,Yz,Ju,Jv,Jw,Y0,Jx,true_and,ok_isi,kIsi_ap]
  refine ⟨h.okX, ?_⟩
  rw [ty_tup h.g]
  cases e : isTupD d with
  | false =>
    rw [pile_notT e] at hT
    simp only [Y1,Qf,Qt,Qu,Qa,Qg,Qv,Qw,Qx,Qy,Qh,Qz,Jy,Qi,Qb,Qj,Qk,Q0,Jz,Q1,Q2,J0,Q3,Q4,J1,Ql,Qm,Qn,Q5,Qo,Q6,Qp,Q7,Q8,J2,Q9,Ja,J3,J4,J5,Jb,J6,J7,Jc,J8,J9,Jd,Je,Ya,Jf,Yb,Jg,Jh,Y8,Yc,Ji,Yd,Ye,Yf,Yg,Yh,Y2,Jj,Qq,Jk,Yi,Jl,Jm,Yj,Y3,Yk,Yl,Y4,Ym,Y5,Yn,Qc,Yo,Jn,Yp,Yq,Y6,Yr,Qd,Jo,Jp,Y7,Ys,Yt,Yu,Yv,Yw,Yx,Jq,Jr,Qr,Js,Yy,Qe,Qs,List.set_cons_zero,List.set_cons_succ,List.map_cons,List.map_nil,List.replicate,List.cons_append,List.nil_append,List.length_cons,List.length_nil,Bool.false_eq_true,eq_self,if_true,if_false,Nat.zero_add,Jt,Yz,Ju,Jv,Jw,Y0,Jx,true_and,Bool.not_false]
    exact fin_any (fun n => nofun) hT
  | true =>
    obtain ⟨ds, rfl⟩ : ∃ ds, d = .tup ds := by
      cases d with
      | tup ds => exact ⟨ds, rfl⟩
      | _ => cases e
    obtain ⟨g, gw, gl⟩ := h.tup
    simp only [Y1,Qf,Qt,Qu,Qa,Qg,Qv,Qw,Qx,Qy,Qh,Qz,Jy,Qi,Qb,Qj,Qk,Q0,Jz,Q1,Q2,J0,Q3,Q4,J1,Ql,Qm,Qn,Q5,Qo,Q6,Qp,Q7,Q8,J2,Q9,Ja,J3,J4,J5,Jb,J6,J7,Jc,J8,J9,Jd,Je,Ya,Jf,Yb,Jg,Jh,Y8,Yc,Ji,Yd,Ye,Yf,Yg,Yh,Y2,Jj,Qq,Jk,Yi,Jl,Jm,Yj,Y3,Yk,Yl,Y4,Ym,Y5,Yn,Qc,Yo,Jn,Yp,Yq,Y6,Yr,Qd,Jo,Jp,Y7,Ys,Yt,Yu,Yv,Yw,Yx,Jq,Jr,Qr,Js,Yy,Qe,Qs,List.set_cons_zero,List.set_cons_succ,List.map_cons,List.map_nil,List.replicate,List.cons_append,List.nil_append,List.length_cons,List.length_nil,Bool.false_eq_true,eq_self,if_true,if_false,Nat.zero_add,Jt,Yz,Ju,Jv,Jw,Y0,Jx,true_and,Bool.not_true,len_tup,ne_int]
    by_cases h4 : ds.length = 4
    · obtain ⟨a, b, c, f, rfl⟩ := four_of h4
      rw [show (!(((([a, b, c, f] : List Dv).length : Nat) : Int) == 4)) = false from rfl]
      have ta : Thg a := .of g gw (by simp)
      have tb : Thg b := .of g gw (by simp)
      have tc : Thg c := .of g gw (by simp)
      have tf : Thg f := .of g gw (by simp)
      have t1 : Thg (.tup [a]) := ⟨by rw [gb_tup]; exact gbs_sub g (by simp), by rw [wb_tup]; simp only [wbs] at gw ⊢; omega⟩
      have e1 : ∀ s : Sto, gSl (.tup [a, b, c, f]) none (some 1) s = .ok (.tup [a]) s := fun s => rfl
      have i0 : ∀ s : Sto, gIx (.tup [a, b, c, f]) (.int 0) s = .ok a s := fun s => rfl
      have i1 : ∀ s : Sto, gIx (.tup [a, b, c, f]) (.int 1) s = .ok b s := fun s => rfl
      have i2 : ∀ s : Sto, gIx (.tup [a, b, c, f]) (.int 2) s = .ok c s := fun s => rfl
      have i3 : ∀ s : Sto, gIx (.tup [a, b, c, f]) (.int 3) s = .ok f s := fun s => rfl
      simp only [Y1,Qf,Qt,Qu,Qa,Qg,Qv,Qw,Qx,Qy,Qh,Qz,Jy,Qi,Qb,Qj,Qk,Q0,Jz,Q1,Q2,J0,Q3,Q4,J1,Ql,Qm,Qn,Q5,Qo,Q6,Qp,Q7,Q8,J2,Q9,Ja,J3,J4,J5,Jb,J6,J7,Jc,J8,J9,Jd,Je,Ya,Jf,Yb,Jg,Jh,Y8,Yc,Ji,Yd,Ye,Yf,Yg,Yh,Y2,Jj,Qq,Jk,Yi,Jl,Jm,Yj,Y3,Yk,Yl,Y4,Ym,Y5,Yn,Qc,Yo,Jn,Yp,Yq,Y6,Yr,Qd,Jo,Jp,Y7,Ys,Yt,Yu,Yv,Yw,Yx,Jq,Jr,Qr,Js,Yy,Qe,Qs,List.set_cons_zero,List.set_cons_succ,List.map_cons,List.map_nil,List.replicate,List.cons_append,List.nil_append,List.length_cons,List.length_nil,Bool.false_eq_true,eq_self,if_true,if_false,Nat.zero_add,Jt,Yz,Ju,Jv,Jw,Y0,Jx,true_and,e1]
      refine hs _ s _ t1 ?_
      rw [show areWordsD (.tup [a]) = isWordD a by simp [areWordsD]]
      have hT : T (.bl ((isWordD a && inZ zs a) && (isFromD b && (isFromD c && (namesD zs f && offD a f))))) s := hT
      cases ew : isWordD a with
      | false =>
        rw [ew] at hT
        simp only [Y1,Qf,Qt,Qu,Qa,Qg,Qv,Qw,Qx,Qy,Qh,Qz,Jy,Qi,Qb,Qj,Qk,Q0,Jz,Q1,Q2,J0,Q3,Q4,J1,Ql,Qm,Qn,Q5,Qo,Q6,Qp,Q7,Q8,J2,Q9,Ja,J3,J4,J5,Jb,J6,J7,Jc,J8,J9,Jd,Je,Ya,Jf,Yb,Jg,Jh,Y8,Yc,Ji,Yd,Ye,Yf,Yg,Yh,Y2,Jj,Qq,Jk,Yi,Jl,Jm,Yj,Y3,Yk,Yl,Y4,Ym,Y5,Yn,Qc,Yo,Jn,Yp,Yq,Y6,Yr,Qd,Jo,Jp,Y7,Ys,Yt,Yu,Yv,Yw,Yx,Jq,Jr,Qr,Js,Yy,Qe,Qs,List.set_cons_zero,List.set_cons_succ,List.map_cons,List.map_nil,List.replicate,List.cons_append,List.nil_append,List.length_cons,List.length_nil,Bool.false_eq_true,eq_self,if_true,if_false,Nat.zero_add,Jt,Yz,Ju,Jv,Jw,Y0,Jx,true_and,Bool.not_false]
        exact fin_any (fun n => nofun) hT
      | true =>
        obtain ⟨z, rfl⟩ := word_is ew
        rw [ew] at hT
        have hT : T (.bl ((true && decide (z ∈ zs)) && (isFromD b && (isFromD c && (namesD zs f && offD (.str z) f))))) s := hT
        simp only [Y1,Qf,Qt,Qu,Qa,Qg,Qv,Qw,Qx,Qy,Qh,Qz,Jy,Qi,Qb,Qj,Qk,Q0,Jz,Q1,Q2,J0,Q3,Q4,J1,Ql,Qm,Qn,Q5,Qo,Q6,Qp,Q7,Q8,J2,Q9,Ja,J3,J4,J5,Jb,J6,J7,Jc,J8,J9,Jd,Je,Ya,Jf,Yb,Jg,Jh,Y8,Yc,Ji,Yd,Ye,Yf,Yg,Yh,Y2,Jj,Qq,Jk,Yi,Jl,Jm,Yj,Y3,Yk,Yl,Y4,Ym,Y5,Yn,Qc,Yo,Jn,Yp,Yq,Y6,Yr,Qd,Jo,Jp,Y7,Ys,Yt,Yu,Yv,Yw,Yx,Jq,Jr,Qr,Js,Yy,Qe,Qs,List.set_cons_zero,List.set_cons_succ,List.map_cons,List.map_nil,List.replicate,List.cons_append,List.nil_append,List.length_cons,List.length_nil,Bool.false_eq_true,eq_self,if_true,if_false,Nat.zero_add,Jt,Yz,Ju,Jv,Jw,Y0,Jx,true_and,Bool.not_true,i0,notin_strs]
        by_cases hz : z ∈ zs
        · rw [decide_eq_true hz] at hT ⊢
          simp only [Y1,Qf,Qt,Qu,Qa,Qg,Qv,Qw,Qx,Qy,Qh,Qz,Jy,Qi,Qb,Qj,Qk,Q0,Jz,Q1,Q2,J0,Q3,Q4,J1,Ql,Qm,Qn,Q5,Qo,Q6,Qp,Q7,Q8,J2,Q9,Ja,J3,J4,J5,Jb,J6,J7,Jc,J8,J9,Jd,Je,Ya,Jf,Yb,Jg,Jh,Y8,Yc,Ji,Yd,Ye,Yf,Yg,Yh,Y2,Jj,Qq,Jk,Yi,Jl,Jm,Yj,Y3,Yk,Yl,Y4,Ym,Y5,Yn,Qc,Yo,Jn,Yp,Yq,Y6,Yr,Qd,Jo,Jp,Y7,Ys,Yt,Yu,Yv,Yw,Yx,Jq,Jr,Qr,Js,Yy,Qe,Qs,List.set_cons_zero,List.set_cons_succ,List.map_cons,List.map_nil,List.replicate,List.cons_append,List.nil_append,List.length_cons,List.length_nil,Bool.false_eq_true,eq_self,if_true,if_false,Nat.zero_add,Jt,Yz,Ju,Jv,Jw,Y0,Jx,true_and,Bool.not_true,i1]
          refine hf b s _ tb ?_
          cases eb : isFromD b with
          | false =>
            rw [eb] at hT
            simp only [Y1,Qf,Qt,Qu,Qa,Qg,Qv,Qw,Qx,Qy,Qh,Qz,Jy,Qi,Qb,Qj,Qk,Q0,Jz,Q1,Q2,J0,Q3,Q4,J1,Ql,Qm,Qn,Q5,Qo,Q6,Qp,Q7,Q8,J2,Q9,Ja,J3,J4,J5,Jb,J6,J7,Jc,J8,J9,Jd,Je,Ya,Jf,Yb,Jg,Jh,Y8,Yc,Ji,Yd,Ye,Yf,Yg,Yh,Y2,Jj,Qq,Jk,Yi,Jl,Jm,Yj,Y3,Yk,Yl,Y4,Ym,Y5,Yn,Qc,Yo,Jn,Yp,Yq,Y6,Yr,Qd,Jo,Jp,Y7,Ys,Yt,Yu,Yv,Yw,Yx,Jq,Jr,Qr,Js,Yy,Qe,Qs,List.set_cons_zero,List.set_cons_succ,List.map_cons,List.map_nil,List.replicate,List.cons_append,List.nil_append,List.length_cons,List.length_nil,Bool.false_eq_true,eq_self,if_true,if_false,Nat.zero_add,Jt,Yz,Ju,Jv,Jw,Y0,Jx,true_and]
            exact fin_any (fun n => nofun) hT
          | true =>
            rw [eb] at hT
            simp only [Y1,Qf,Qt,Qu,Qa,Qg,Qv,Qw,Qx,Qy,Qh,Qz,Jy,Qi,Qb,Qj,Qk,Q0,Jz,Q1,Q2,J0,Q3,Q4,J1,Ql,Qm,Qn,Q5,Qo,Q6,Qp,Q7,Q8,J2,Q9,Ja,J3,J4,J5,Jb,J6,J7,Jc,J8,J9,Jd,Je,Ya,Jf,Yb,Jg,Jh,Y8,Yc,Ji,Yd,Ye,Yf,Yg,Yh,Y2,Jj,Qq,Jk,Yi,Jl,Jm,Yj,Y3,Yk,Yl,Y4,Ym,Y5,Yn,Qc,Yo,Jn,Yp,Yq,Y6,Yr,Qd,Jo,Jp,Y7,Ys,Yt,Yu,Yv,Yw,Yx,Jq,Jr,Qr,Js,Yy,Qe,Qs,List.set_cons_zero,List.set_cons_succ,List.map_cons,List.map_nil,List.replicate,List.cons_append,List.nil_append,List.length_cons,List.length_nil,Bool.false_eq_true,eq_self,if_true,if_false,Nat.zero_add,Jt,Yz,Ju,Jv,Jw,Y0,Jx,true_and,i2]
            refine hf c s _ tc ?_
            cases ec : isFromD c with
            | false =>
              rw [ec] at hT
              simp only [Y1,Qf,Qt,Qu,Qa,Qg,Qv,Qw,Qx,Qy,Qh,Qz,Jy,Qi,Qb,Qj,Qk,Q0,Jz,Q1,Q2,J0,Q3,Q4,J1,Ql,Qm,Qn,Q5,Qo,Q6,Qp,Q7,Q8,J2,Q9,Ja,J3,J4,J5,Jb,J6,J7,Jc,J8,J9,Jd,Je,Ya,Jf,Yb,Jg,Jh,Y8,Yc,Ji,Yd,Ye,Yf,Yg,Yh,Y2,Jj,Qq,Jk,Yi,Jl,Jm,Yj,Y3,Yk,Yl,Y4,Ym,Y5,Yn,Qc,Yo,Jn,Yp,Yq,Y6,Yr,Qd,Jo,Jp,Y7,Ys,Yt,Yu,Yv,Yw,Yx,Jq,Jr,Qr,Js,Yy,Qe,Qs,List.set_cons_zero,List.set_cons_succ,List.map_cons,List.map_nil,List.replicate,List.cons_append,List.nil_append,List.length_cons,List.length_nil,Bool.false_eq_true,eq_self,if_true,if_false,Nat.zero_add,Jt,Yz,Ju,Jv,Jw,Y0,Jx,true_and]
              exact fin_any (fun n => nofun) hT
            | true =>
              rw [ec] at hT
              simp only [Y1,Qf,Qt,Qu,Qa,Qg,Qv,Qw,Qx,Qy,Qh,Qz,Jy,Qi,Qb,Qj,Qk,Q0,Jz,Q1,Q2,J0,Q3,Q4,J1,Ql,Qm,Qn,Q5,Qo,Q6,Qp,Q7,Q8,J2,Q9,Ja,J3,J4,J5,Jb,J6,J7,Jc,J8,J9,Jd,Je,Ya,Jf,Yb,Jg,Jh,Y8,Yc,Ji,Yd,Ye,Yf,Yg,Yh,Y2,Jj,Qq,Jk,Yi,Jl,Jm,Yj,Y3,Yk,Yl,Y4,Ym,Y5,Yn,Qc,Yo,Jn,Yp,Yq,Y6,Yr,Qd,Jo,Jp,Y7,Ys,Yt,Yu,Yv,Yw,Yx,Jq,Jr,Qr,Js,Yy,Qe,Qs,List.set_cons_zero,List.set_cons_succ,List.map_cons,List.map_nil,List.replicate,List.cons_append,List.nil_append,List.length_cons,List.length_nil,Bool.false_eq_true,eq_self,if_true,if_false,Nat.zero_add,Jt,Yz,Ju,Jv,Jw,Y0,Jx,true_and,i3]
              refine hn zs f s _ tf ?_
              cases en : namesD zs f with
              | false =>
                rw [en] at hT
                simp only [Y1,Qf,Qt,Qu,Qa,Qg,Qv,Qw,Qx,Qy,Qh,Qz,Jy,Qi,Qb,Qj,Qk,Q0,Jz,Q1,Q2,J0,Q3,Q4,J1,Ql,Qm,Qn,Q5,Qo,Q6,Qp,Q7,Q8,J2,Q9,Ja,J3,J4,J5,Jb,J6,J7,Jc,J8,J9,Jd,Je,Ya,Jf,Yb,Jg,Jh,Y8,Yc,Ji,Yd,Ye,Yf,Yg,Yh,Y2,Jj,Qq,Jk,Yi,Jl,Jm,Yj,Y3,Yk,Yl,Y4,Ym,Y5,Yn,Qc,Yo,Jn,Yp,Yq,Y6,Yr,Qd,Jo,Jp,Y7,Ys,Yt,Yu,Yv,Yw,Yx,Jq,Jr,Qr,Js,Yy,Qe,Qs,List.set_cons_zero,List.set_cons_succ,List.map_cons,List.map_nil,List.replicate,List.cons_append,List.nil_append,List.length_cons,List.length_nil,Bool.false_eq_true,eq_self,if_true,if_false,Nat.zero_add,Jt,Yz,Ju,Jv,Jw,Y0,Jx,true_and]
                exact fin_any (fun n => nofun) hT
              | true =>
                rw [en] at hT
                obtain ⟨ys, rfl⟩ := names_tup en
                rw [offD_str] at hT
                have enot : ∀ s : Sto, gNotIn (.str z) (.tup (ys.map .str)) s = .ok (.bl (!decide (z ∈ ys))) s := fun s => notin_strs
                simp only [Y1,Qf,Qt,Qu,Qa,Qg,Qv,Qw,Qx,Qy,Qh,Qz,Jy,Qi,Qb,Qj,Qk,Q0,Jz,Q1,Q2,J0,Q3,Q4,J1,Ql,Qm,Qn,Q5,Qo,Q6,Qp,Q7,Q8,J2,Q9,Ja,J3,J4,J5,Jb,J6,J7,Jc,J8,J9,Jd,Je,Ya,Jf,Yb,Jg,Jh,Y8,Yc,Ji,Yd,Ye,Yf,Yg,Yh,Y2,Jj,Qq,Jk,Yi,Jl,Jm,Yj,Y3,Yk,Yl,Y4,Ym,Y5,Yn,Qc,Yo,Jn,Yp,Yq,Y6,Yr,Qd,Jo,Jp,Y7,Ys,Yt,Yu,Yv,Yw,Yx,Jq,Jr,Qr,Js,Yy,Qe,Qs,List.set_cons_zero,List.set_cons_succ,List.map_cons,List.map_nil,List.replicate,List.cons_append,List.nil_append,List.length_cons,List.length_nil,Bool.false_eq_true,eq_self,if_true,if_false,Nat.zero_add,Jt,Yz,Ju,Jv,Jw,Y0,Jx,true_and,i0,i3,enot]
                exact fin_any (fun n => nofun) hT
        · rw [decide_eq_false hz] at hT ⊢
          simp only [Y1,Qf,Qt,Qu,Qa,Qg,Qv,Qw,Qx,Qy,Qh,Qz,Jy,Qi,Qb,Qj,Qk,Q0,Jz,Q1,Q2,J0,Q3,Q4,J1,Ql,Qm,Qn,Q5,Qo,Q6,Qp,Q7,Q8,J2,Q9,Ja,J3,J4,J5,Jb,J6,J7,Jc,J8,J9,Jd,Je,Ya,Jf,Yb,Jg,Jh,Y8,Yc,Ji,Yd,Ye,Yf,Yg,Yh,Y2,Jj,Qq,Jk,Yi,Jl,Jm,Yj,Y3,Yk,Yl,Y4,Ym,Y5,Yn,Qc,Yo,Jn,Yp,Yq,Y6,Yr,Qd,Jo,Jp,Y7,Ys,Yt,Yu,Yv,Yw,Yx,Jq,Jr,Qr,Js,Yy,Qe,Qs,List.set_cons_zero,List.set_cons_succ,List.map_cons,List.map_nil,List.replicate,List.cons_append,List.nil_append,List.length_cons,List.length_nil,Bool.false_eq_true,eq_self,if_true,if_false,Nat.zero_add,Jt,Yz,Ju,Jv,Jw,Y0,Jx,true_and,Bool.not_false]
          exact fin_any (fun n => nofun) hT
    · rw [show (!((ds.length : Int) == 4)) = true by
        rw [Bool.not_eq_true', beq_eq_false_iff_ne]; omega]
      rw [pile_not4 h4] at hT
      simp only [Y1,Qf,Qt,Qu,Qa,Qg,Qv,Qw,Qx,Qy,Qh,Qz,Jy,Qi,Qb,Qj,Qk,Q0,Jz,Q1,Q2,J0,Q3,Q4,J1,Ql,Qm,Qn,Q5,Qo,Q6,Qp,Q7,Q8,J2,Q9,Ja,J3,J4,J5,Jb,J6,J7,Jc,J8,J9,Jd,Je,Ya,Jf,Yb,Jg,Jh,Y8,Yc,Ji,Yd,Ye,Yf,Yg,Yh,Y2,Jj,Qq,Jk,Yi,Jl,Jm,Yj,Y3,Yk,Yl,Y4,Ym,Y5,Yn,Qc,Yo,Jn,Yp,Yq,Y6,Yr,Qd,Jo,Jp,Y7,Ys,Yt,Yu,Yv,Yw,Yx,Jq,Jr,Qr,Js,Yy,Qe,Qs,List.set_cons_zero,List.set_cons_succ,List.map_cons,List.map_nil,List.replicate,List.cons_append,List.nil_append,List.length_cons,List.length_nil,Bool.false_eq_true,eq_self,if_true,if_false,Nat.zero_add,Jt,Yz,Ju,Jv,Jw,Y0,Jx,true_and]
      exact fin_any (fun n => nofun) hT
end Z

namespace Z
open PySem PySem.Spec L2

/-! ### a count, by the program's look -/
def neD : Dv → Bool
  | .tup es => !es.isEmpty
  | _ => false
def doubtD (zs : List Str) (e : Dv) : Bool := namesD zs e && neD e
def restD : Dv → Dv → Dv → Bool
  | .tup ls, .tup ps, .tup qs => (match strs? ls with | some zs => ps.all (pileD zs) && qs.all (doubtD zs) | none => false)
  | _, _, _ => false
theorem restD_t {zs : List Str} {ps qs : List Dv} : restD (.tup (zs.map .str)) (.tup ps) (.tup qs) = (ps.all (pileD zs) && qs.all (doubtD zs)) := by simp only [restD, strs?_map]
def countD : Dv → Bool
  | .tup [l, p, q] => isLotsD l && (isTupD p && (isTupD q && restD l p q))
  | _ => false
theorem count_not3 {ds : List Dv} (h : ds.length ≠ 3) : countD (.tup ds) = false := by
  match ds, h with
  | [], _ => rfl
  | [_], _ => rfl
  | [_, _], _ => rfl
  | [_, _, _], h => exact absurd rfl h
  | _ :: _ :: _ :: _ :: _, _ => rfl
theorem count_notT {d : Dv} (h : isTupD d = false) : countD d = false := by
  cases d with
  | tup ds => cases h
  | _ => rfl
theorem lots_words {d : Dv} (h : isLotsD d = true) : ∃ zs : List Str, d = .tup (zs.map .str) ∧ (zs.map Dv.str).all isWordD = true ∧ 1 < zs.length ∧ zs.Nodup := by
  cases d with
  | tup ds =>
    have h : (ds.all isWordD && (decide (1 < ds.length) && (match strs? ds with | some zs => decide zs.Nodup | none => false))) = true := h
    rw [Bool.and_eq_true, Bool.and_eq_true] at h
    obtain ⟨zs, rfl⟩ := words_dec h.1
    rw [strs?_map, List.length_map] at h
    exact ⟨zs, rfl, h.1, of_decide_eq_true h.2.1, of_decide_eq_true h.2.2⟩
  | _ => cases h
theorem isTup_of {d : Dv} (h : isTupD d = true) : ∃ ds, d = .tup ds := by
  cases d with
  | tup ds => exact ⟨ds, rfl⟩
  | _ => cases h
/-- as ThS, of things in which all tuples are short -/
def ThC (φ : Phi) (p : Dv → Bool) : Prop := ∀ (d : Dv) (s : Sto) (T : Dv → Sto → Prop), Thg d → tn d ≤ 4000 → T (.bl (p d)) s → OkE nX (φ [d] s) T
def bCount11c (φp : Phi) : Fn Ct := (fIfS (fNotT (fTest (fCall gAll (fCons (fVal (fLc (fSrc (fBin gIx (fVar 0) (fC (.int 1)))) [2] (gNm 2) (fYes) (fCall φp (fCons (fBin gIx (fVar 0) (fC (.int 0))) (fCons (fVar 2) (fNil)))))) (fNil))))) (fRet (fC (.bl false))) (fNop))
def bCount11d (φn : Phi) : Fn Ct := (fRet (fCall gAll (fCons (fVal (fLc (fSrc (fBin gIx (fVar 0) (fC (.int 2)))) [1] (gNm 1) (fYes) (fAnd (fCall φn (fCons (fBin gIx (fVar 0) (fC (.int 0))) (fCons (fVar 1) (fNil)))) (fBin gGt (fCall gLen (fCons (fVar 1) (fNil))) (fC (.int 0)))))) (fNil))))
def bCount11 (φl : Phi) (bc bd : Fn Ct) : Fn Ct :=
  fSeq (fIfS (fOrT (fNotT (fTest (fIsi "tuple" (fVar 0)))) (fOrT (fTest (fBin gNe (fCall gLen (fCons (fVar 0) (fNil))) (fC (.int 3)))) (fNotT (fTest (fCall φl (fCons (fBin gIx (fVar 0) (fC (.int 0))) (fNil))))))) (fRet (fC (.bl false))) (fNop))
  (fSeq (fIfS (fOrT (fNotT (fTest (fIsi "tuple" (fBin gIx (fVar 0) (fC (.int 1)))))) (fNotT (fTest (fIsi "tuple" (fBin gIx (fVar 0) (fC (.int 2))))))) (fRet (fC (.bl false))) (fNop))
  (fSeq bc bd))
theorem count11d_spec {φn : Phi} {b : Fn Ct} (hb : b = bCount11d φn) (hn : NamS φn) {zs : List Str} {p : Dv} {qs : List Dv} (h : Thg (.tup qs)) {v2 : Option Dv} {s : Sto} {R : Ct → Sto → Prop} (hR : R (.ret (.bl (qs.all (doubtD zs)))) s) :
    OkE nX (b [some (.tup [encS zs, p, .tup qs]), none, v2] s) R := by
  subst hb
  obtain ⟨g, gw, gl⟩ := h.tup
  unfold bCount11d
  have i0 : ∀ s : Sto, gIx (.tup [encS zs, p, .tup qs]) (.int 0) s = .ok (encS zs) s := fun s => rfl
  have i2 : ∀ s : Sto, gIx (.tup [encS zs, p, .tup qs]) (.int 2) s = .ok (.tup qs) s := fun s => rfl
  simp only [Y1,Qf,Qt,Qu,Qa,Qg,Qv,Qw,Qx,Qy,Qh,Qz,Jy,Qi,Qb,Qj,Qk,Q0,Jz,Q1,Q2,J0,Q3,Q4,J1,Ql,Qm,Qn,Q5,Qo,Q6,Qp,Q7,Q8,J2,Q9,Ja,J3,J4,J5,Jb,J6,J7,Jc,J8,J9,Jd,Je,Ya,Jf,Yb,Jg,Jh,Y8,Yc,Ji,Yd,Ye,Yf,Yg,Yh,Y2,Jj,Qq,Jk,Yi,Jl,Jm,Yj,Y3,Yk,Yl,Y4,Ym,Y5,Yn,Qc,Yo,Jn,Yp,Yq,Y6,Yr,Qd,Jo,Jp,Y7,Ys,Yt,Yu,Yv,Yw,Yx,Jq,Jr,Qr,Js,Yy,Qe,Qs,List.set_cons_zero,List.set_cons_succ,List.map_cons,List.map_nil,List.replicate,List.cons_append,List.nil_append,List.length_cons,List.length_nil,Bool.false_eq_true,eq_self,if_true,if_false,Nat.zero_add,Jt,Yz,Ju,Jv,Jw,Y0,Jx,true_and,i2]
  refine ⟨decide_eq_true (by omega), ?_⟩
  refine ok_map (fun _ => true) (fun d => .bl (doubtD zs d)) (fun d hd => ?_) ?_
  · have td : Thg d := .of g gw hd
    simp only [Y1,Qf,Qt,Qu,Qa,Qg,Qv,Qw,Qx,Qy,Qh,Qz,Jy,Qi,Qb,Qj,Qk,Q0,Jz,Q1,Q2,J0,Q3,Q4,J1,Ql,Qm,Qn,Q5,Qo,Q6,Qp,Q7,Q8,J2,Q9,Ja,J3,J4,J5,Jb,J6,J7,Jc,J8,J9,Jd,Je,Ya,Jf,Yb,Jg,Jh,Y8,Yc,Ji,Yd,Ye,Yf,Yg,Yh,Y2,Jj,Qq,Jk,Yi,Jl,Jm,Yj,Y3,Yk,Yl,Y4,Ym,Y5,Yn,Qc,Yo,Jn,Yp,Yq,Y6,Yr,Qd,Jo,Jp,Y7,Ys,Yt,Yu,Yv,Yw,Yx,Jq,Jr,Qr,Js,Yy,Qe,Qs,List.set_cons_zero,List.set_cons_succ,List.map_cons,List.map_nil,List.replicate,List.cons_append,List.nil_append,List.length_cons,List.length_nil,Bool.false_eq_true,eq_self,if_true,if_false,Nat.zero_add,Jt,Yz,Ju,Jv,Jw,Y0,Jx,true_and,wipeZ,i0]
    refine hn zs d s _ td ?_
    unfold doubtD
    cases e : namesD zs d with
    | false =>
      simp only [Y1,Qf,Qt,Qu,Qa,Qg,Qv,Qw,Qx,Qy,Qh,Qz,Jy,Qi,Qb,Qj,Qk,Q0,Jz,Q1,Q2,J0,Q3,Q4,J1,Ql,Qm,Qn,Q5,Qo,Q6,Qp,Q7,Q8,J2,Q9,Ja,J3,J4,J5,Jb,J6,J7,Jc,J8,J9,Jd,Je,Ya,Jf,Yb,Jg,Jh,Y8,Yc,Ji,Yd,Ye,Yf,Yg,Yh,Y2,Jj,Qq,Jk,Yi,Jl,Jm,Yj,Y3,Yk,Yl,Y4,Ym,Y5,Yn,Qc,Yo,Jn,Yp,Yq,Y6,Yr,Qd,Jo,Jp,Y7,Ys,Yt,Yu,Yv,Yw,Yx,Jq,Jr,Qr,Js,Yy,Qe,Qs,List.set_cons_zero,List.set_cons_succ,List.map_cons,List.map_nil,List.replicate,List.cons_append,List.nil_append,List.length_cons,List.length_nil,Bool.false_eq_true,eq_self,if_true,if_false,Nat.zero_add,Jt,Yz,Ju,Jv,Jw,Y0,Jx,true_and]
      first | exact ⟨rfl, rfl⟩ | exact ⟨rfl, rfl, rfl⟩ | trivial
    | true =>
      obtain ⟨ys, rfl⟩ := names_tup e
      simp only [Y1,Qf,Qt,Qu,Qa,Qg,Qv,Qw,Qx,Qy,Qh,Qz,Jy,Qi,Qb,Qj,Qk,Q0,Jz,Q1,Q2,J0,Q3,Q4,J1,Ql,Qm,Qn,Q5,Qo,Q6,Qp,Q7,Q8,J2,Q9,Ja,J3,J4,J5,Jb,J6,J7,Jc,J8,J9,Jd,Je,Ya,Jf,Yb,Jg,Jh,Y8,Yc,Ji,Yd,Ye,Yf,Yg,Yh,Y2,Jj,Qq,Jk,Yi,Jl,Jm,Yj,Y3,Yk,Yl,Y4,Ym,Y5,Yn,Qc,Yo,Jn,Yp,Yq,Y6,Yr,Qd,Jo,Jp,Y7,Ys,Yt,Yu,Yv,Yw,Yx,Jq,Jr,Qr,Js,Yy,Qe,Qs,List.set_cons_zero,List.set_cons_succ,List.map_cons,List.map_nil,List.replicate,List.cons_append,List.nil_append,List.length_cons,List.length_nil,Bool.false_eq_true,eq_self,if_true,if_false,Nat.zero_add,Jt,Yz,Ju,Jv,Jw,Y0,Jx,true_and,len_tup,List.length_map,gt_int]
      have en : decide ((0 : Int) < (ys.length : Int)) = neD (.tup (ys.map .str)) := by
        cases ys with
        | nil => rfl
        | cons y ys => first | (simp [neD]; done) | (simp [neD]; omega)
      rw [en]
      first | exact ⟨rfl, rfl⟩ | exact ⟨rfl, rfl, rfl⟩ | trivial
  rw [filter_yes]
  simp only [Y1,Qf,Qt,Qu,Qa,Qg,Qv,Qw,Qx,Qy,Qh,Qz,Jy,Qi,Qb,Qj,Qk,Q0,Jz,Q1,Q2,J0,Q3,Q4,J1,Ql,Qm,Qn,Q5,Qo,Q6,Qp,Q7,Q8,J2,Q9,Ja,J3,J4,J5,Jb,J6,J7,Jc,J8,J9,Jd,Je,Ya,Jf,Yb,Jg,Jh,Y8,Yc,Ji,Yd,Ye,Yf,Yg,Yh,Y2,Jj,Qq,Jk,Yi,Jl,Jm,Yj,Y3,Yk,Yl,Y4,Ym,Y5,Yn,Qc,Yo,Jn,Yp,Yq,Y6,Yr,Qd,Jo,Jp,Y7,Ys,Yt,Yu,Yv,Yw,Yx,Jq,Jr,Qr,Js,Yy,Qe,Qs,List.set_cons_zero,List.set_cons_succ,List.map_cons,List.map_nil,List.replicate,List.cons_append,List.nil_append,List.length_cons,List.length_nil,Bool.false_eq_true,eq_self,if_true,if_false,Nat.zero_add,Jt,Yz,Ju,Jv,Jw,Y0,Jx,true_and,all_map]
  exact hR
theorem count11c_spec {φp : Phi} {b : Fn Ct} (hb : b = bCount11c φp) (hp : PilS φp) {zs : List Str} {ps : List Dv} {q : Dv} (h : Thg (.tup ps)) {v1 : Option Dv} {s : Sto} {R : Ct → Sto → Prop} (hR : ps.all (pileD zs) = true → R (.next [some (.tup [encS zs, .tup ps, q]), v1, none]) s) (hR2 : ps.all (pileD zs) = false → R (.ret (.bl false)) s) :
    OkE nX (b [some (.tup [encS zs, .tup ps, q]), v1, none] s) R := by
  subst hb
  obtain ⟨g, gw, gl⟩ := h.tup
  unfold bCount11c
  have i0 : ∀ s : Sto, gIx (.tup [encS zs, .tup ps, q]) (.int 0) s = .ok (encS zs) s := fun s => rfl
  have i1 : ∀ s : Sto, gIx (.tup [encS zs, .tup ps, q]) (.int 1) s = .ok (.tup ps) s := fun s => rfl
  simp only [Y1,Qf,Qt,Qu,Qa,Qg,Qv,Qw,Qx,Qy,Qh,Qz,Jy,Qi,Qb,Qj,Qk,Q0,Jz,Q1,Q2,J0,Q3,Q4,J1,Ql,Qm,Qn,Q5,Qo,Q6,Qp,Q7,Q8,J2,Q9,Ja,J3,J4,J5,Jb,J6,J7,Jc,J8,J9,Jd,Je,Ya,Jf,Yb,Jg,Jh,Y8,Yc,Ji,Yd,Ye,Yf,Yg,Yh,Y2,Jj,Qq,Jk,Yi,Jl,Jm,Yj,Y3,Yk,Yl,Y4,Ym,Y5,Yn,Qc,Yo,Jn,Yp,Yq,Y6,Yr,Qd,Jo,Jp,Y7,Ys,Yt,Yu,Yv,Yw,Yx,Jq,Jr,Qr,Js,Yy,Qe,Qs,List.set_cons_zero,List.set_cons_succ,List.map_cons,List.map_nil,List.replicate,List.cons_append,List.nil_append,List.length_cons,List.length_nil,Bool.false_eq_true,eq_self,if_true,if_false,Nat.zero_add,Jt,Yz,Ju,Jv,Jw,Y0,Jx,true_and,i1]
  refine ⟨decide_eq_true (by omega), ?_⟩
  refine ok_map (fun _ => true) (fun d => .bl (pileD zs d)) (fun d hd => ?_) ?_
  · have td : Thg d := .of g gw hd
    simp only [Y1,Qf,Qt,Qu,Qa,Qg,Qv,Qw,Qx,Qy,Qh,Qz,Jy,Qi,Qb,Qj,Qk,Q0,Jz,Q1,Q2,J0,Q3,Q4,J1,Ql,Qm,Qn,Q5,Qo,Q6,Qp,Q7,Q8,J2,Q9,Ja,J3,J4,J5,Jb,J6,J7,Jc,J8,J9,Jd,Je,Ya,Jf,Yb,Jg,Jh,Y8,Yc,Ji,Yd,Ye,Yf,Yg,Yh,Y2,Jj,Qq,Jk,Yi,Jl,Jm,Yj,Y3,Yk,Yl,Y4,Ym,Y5,Yn,Qc,Yo,Jn,Yp,Yq,Y6,Yr,Qd,Jo,Jp,Y7,Ys,Yt,Yu,Yv,Yw,Yx,Jq,Jr,Qr,Js,Yy,Qe,Qs,List.set_cons_zero,List.set_cons_succ,List.map_cons,List.map_nil,List.replicate,List.cons_append,List.nil_append,List.length_cons,List.length_nil,Bool.false_eq_true,eq_self,if_true,if_false,Nat.zero_add,Jt,Yz,Ju,Jv,Jw,Y0,Jx,true_and,wipeZ,i0]
    exact hp zs d s _ td ⟨rfl, rfl⟩
  rw [filter_yes]
  simp only [Y1,Qf,Qt,Qu,Qa,Qg,Qv,Qw,Qx,Qy,Qh,Qz,Jy,Qi,Qb,Qj,Qk,Q0,Jz,Q1,Q2,J0,Q3,Q4,J1,Ql,Qm,Qn,Q5,Qo,Q6,Qp,Q7,Q8,J2,Q9,Ja,J3,J4,J5,Jb,J6,J7,Jc,J8,J9,Jd,Je,Ya,Jf,Yb,Jg,Jh,Y8,Yc,Ji,Yd,Ye,Yf,Yg,Yh,Y2,Jj,Qq,Jk,Yi,Jl,Jm,Yj,Y3,Yk,Yl,Y4,Ym,Y5,Yn,Qc,Yo,Jn,Yp,Yq,Y6,Yr,Qd,Jo,Jp,Y7,Ys,Yt,Yu,Yv,Yw,Yx,Jq,Jr,Qr,Js,Yy,Qe,Qs,List.set_cons_zero,List.set_cons_succ,List.map_cons,List.map_nil,List.replicate,List.cons_append,List.nil_append,List.length_cons,List.length_nil,Bool.false_eq_true,eq_self,if_true,if_false,Nat.zero_add,Jt,Yz,Ju,Jv,Jw,Y0,Jx,true_and,all_map]
  cases e : ps.all (pileD zs) with
  | false => simp only [Y1,Qf,Qt,Qu,Qa,Qg,Qv,Qw,Qx,Qy,Qh,Qz,Jy,Qi,Qb,Qj,Qk,Q0,Jz,Q1,Q2,J0,Q3,Q4,J1,Ql,Qm,Qn,Q5,Qo,Q6,Qp,Q7,Q8,J2,Q9,Ja,J3,J4,J5,Jb,J6,J7,Jc,J8,J9,Jd,Je,Ya,Jf,Yb,Jg,Jh,Y8,Yc,Ji,Yd,Ye,Yf,Yg,Yh,Y2,Jj,Qq,Jk,Yi,Jl,Jm,Yj,Y3,Yk,Yl,Y4,Ym,Y5,Yn,Qc,Yo,Jn,Yp,Yq,Y6,Yr,Qd,Jo,Jp,Y7,Ys,Yt,Yu,Yv,Yw,Yx,Jq,Jr,Qr,Js,Yy,Qe,Qs,List.set_cons_zero,List.set_cons_succ,List.map_cons,List.map_nil,List.replicate,List.cons_append,List.nil_append,List.length_cons,List.length_nil,Bool.false_eq_true,eq_self,if_true,if_false,Nat.zero_add,Jt,Yz,Ju,Jv,Jw,Y0,Jx,true_and,Bool.not_false]; exact hR2 e
  | true => simp only [Y1,Qf,Qt,Qu,Qa,Qg,Qv,Qw,Qx,Qy,Qh,Qz,Jy,Qi,Qb,Qj,Qk,Q0,Jz,Q1,Q2,J0,Q3,Q4,J1,Ql,Qm,Qn,Q5,Qo,Q6,Qp,Q7,Q8,J2,Q9,Ja,J3,J4,J5,Jb,J6,J7,Jc,J8,J9,Jd,Je,Ya,Jf,Yb,Jg,Jh,Y8,Yc,Ji,Yd,Ye,Yf,Yg,Yh,Y2,Jj,Qq,Jk,Yi,Jl,Jm,Yj,Y3,Yk,Yl,Y4,Ym,Y5,Yn,Qc,Yo,Jn,Yp,Yq,Y6,Yr,Qd,Jo,Jp,Y7,Ys,Yt,Yu,Yv,Yw,Yx,Jq,Jr,Qr,Js,Yy,Qe,Qs,List.set_cons_zero,List.set_cons_succ,List.map_cons,List.map_nil,List.replicate,List.cons_append,List.nil_append,List.length_cons,List.length_nil,Bool.false_eq_true,eq_self,if_true,if_false,Nat.zero_add,Jt,Yz,Ju,Jv,Jw,Y0,Jx,true_and,Bool.not_true]; exact hR e
theorem count11_spec {φl φp φn : Phi} {bc bd : Fn Ct} (hbc : bc = bCount11c φp) (hbd : bd = bCount11d φn) (hl : ThL φl isLotsD) (hp : PilS φp) (hn : NamS φn) : ThC (fDef 1 3 (bCount11 φl bc bd)) countD := by
  intro d s T h ht hT
  rw [ok_def]
  refine ⟨rfl, ?_⟩
  unfold bCount11
  simp only [Y1,Qf,Qt,Qu,Qa,Qg,Qv,Qw,Qx,Qy,Qh,Qz,Jy,Qi,Qb,Qj,Qk,Q0,Jz,Q1,Q2,J0,Q3,Q4,J1,Ql,Qm,Qn,Q5,Qo,Q6,Qp,Q7,Q8,J2,Q9,Ja,J3,J4,J5,Jb,J6,J7,Jc,J8,J9,Jd,Je,Ya,Jf,Yb,Jg,Jh,Y8,Yc,Ji,Yd,Ye,Yf,Yg,Yh,Y2,Jj,Qq,Jk,Yi,Jl,Jm,Yj,Y3,Yk,Yl,Y4,Ym,Y5,Yn,Qc,Yo,Jn,Yp,Yq,Y6,Yr,Qd,Jo,Jp,Y7,Ys,Yt,Yu,Yv,Yw,Yx,Jq,Jr,Qr,Js,Yy,Qe,Qs,List.set_cons_zero,List.set_cons_succ,List.map_cons,List.map_nil,List.replicate,List.cons_append,List.nil_append,List.length_cons,List.length_nil,Bool.false_eq_true,eq_self,if_true,if_false,Nat.zero_add,Jt,Yz,Ju,Jv,Jw,Y0,Jx,true_and,ok_isi,kIsi_ap]
  refine ⟨h.okX, ?_⟩
  rw [ty_tup h.g]
  cases e : isTupD d with
  | false =>
    rw [count_notT e] at hT
    simp only [Y1,Qf,Qt,Qu,Qa,Qg,Qv,Qw,Qx,Qy,Qh,Qz,Jy,Qi,Qb,Qj,Qk,Q0,Jz,Q1,Q2,J0,Q3,Q4,J1,Ql,Qm,Qn,Q5,Qo,Q6,Qp,Q7,Q8,J2,Q9,Ja,J3,J4,J5,Jb,J6,J7,Jc,J8,J9,Jd,Je,Ya,Jf,Yb,Jg,Jh,Y8,Yc,Ji,Yd,Ye,Yf,Yg,Yh,Y2,Jj,Qq,Jk,Yi,Jl,Jm,Yj,Y3,Yk,Yl,Y4,Ym,Y5,Yn,Qc,Yo,Jn,Yp,Yq,Y6,Yr,Qd,Jo,Jp,Y7,Ys,Yt,Yu,Yv,Yw,Yx,Jq,Jr,Qr,Js,Yy,Qe,Qs,List.set_cons_zero,List.set_cons_succ,List.map_cons,List.map_nil,List.replicate,List.cons_append,List.nil_append,List.length_cons,List.length_nil,Bool.false_eq_true,eq_self,if_true,if_false,Nat.zero_add,Jt,Yz,Ju,Jv,Jw,Y0,Jx,true_and,Bool.not_false]
    exact fin_any (fun n => nofun) hT
  | true =>
    obtain ⟨ds, rfl⟩ := isTup_of e
    obtain ⟨g, gw, gl⟩ := h.tup
    simp only [Y1,Qf,Qt,Qu,Qa,Qg,Qv,Qw,Qx,Qy,Qh,Qz,Jy,Qi,Qb,Qj,Qk,Q0,Jz,Q1,Q2,J0,Q3,Q4,J1,Ql,Qm,Qn,Q5,Qo,Q6,Qp,Q7,Q8,J2,Q9,Ja,J3,J4,J5,Jb,J6,J7,Jc,J8,J9,Jd,Je,Ya,Jf,Yb,Jg,Jh,Y8,Yc,Ji,Yd,Ye,Yf,Yg,Yh,Y2,Jj,Qq,Jk,Yi,Jl,Jm,Yj,Y3,Yk,Yl,Y4,Ym,Y5,Yn,Qc,Yo,Jn,Yp,Yq,Y6,Yr,Qd,Jo,Jp,Y7,Ys,Yt,Yu,Yv,Yw,Yx,Jq,Jr,Qr,Js,Yy,Qe,Qs,List.set_cons_zero,List.set_cons_succ,List.map_cons,List.map_nil,List.replicate,List.cons_append,List.nil_append,List.length_cons,List.length_nil,Bool.false_eq_true,eq_self,if_true,if_false,Nat.zero_add,Jt,Yz,Ju,Jv,Jw,Y0,Jx,true_and,Bool.not_true,len_tup,ne_int]
    by_cases h3 : ds.length = 3
    · obtain ⟨l, p, q, rfl⟩ := three_of h3
      rw [show (!(((([l, p, q] : List Dv).length : Nat) : Int) == 3)) = false from rfl]
      have tl' : Thg l := .of g gw (by simp)
      have tp : Thg p := .of g gw (by simp)
      have tq : Thg q := .of g gw (by simp)
      have i0 : ∀ s : Sto, gIx (.tup [l, p, q]) (.int 0) s = .ok l s := fun s => rfl
      have i1 : ∀ s : Sto, gIx (.tup [l, p, q]) (.int 1) s = .ok p s := fun s => rfl
      have i2 : ∀ s : Sto, gIx (.tup [l, p, q]) (.int 2) s = .ok q s := fun s => rfl
      have hll : tl l ≤ 4000 := Nat.le_trans (tl_tn l) ((tn_tup.mp ht).2 l (by simp))
      simp only [Y1,Qf,Qt,Qu,Qa,Qg,Qv,Qw,Qx,Qy,Qh,Qz,Jy,Qi,Qb,Qj,Qk,Q0,Jz,Q1,Q2,J0,Q3,Q4,J1,Ql,Qm,Qn,Q5,Qo,Q6,Qp,Q7,Q8,J2,Q9,Ja,J3,J4,J5,Jb,J6,J7,Jc,J8,J9,Jd,Je,Ya,Jf,Yb,Jg,Jh,Y8,Yc,Ji,Yd,Ye,Yf,Yg,Yh,Y2,Jj,Qq,Jk,Yi,Jl,Jm,Yj,Y3,Yk,Yl,Y4,Ym,Y5,Yn,Qc,Yo,Jn,Yp,Yq,Y6,Yr,Qd,Jo,Jp,Y7,Ys,Yt,Yu,Yv,Yw,Yx,Jq,Jr,Qr,Js,Yy,Qe,Qs,List.set_cons_zero,List.set_cons_succ,List.map_cons,List.map_nil,List.replicate,List.cons_append,List.nil_append,List.length_cons,List.length_nil,Bool.false_eq_true,eq_self,if_true,if_false,Nat.zero_add,Jt,Yz,Ju,Jv,Jw,Y0,Jx,true_and,i0]
      refine hl l s _ tl' hll ?_
      cases el : isLotsD l with
      | false =>
        have hT : T (.bl (isLotsD l && (isTupD p && (isTupD q && restD l p q)))) s := hT
        rw [el] at hT
        simp only [Y1,Qf,Qt,Qu,Qa,Qg,Qv,Qw,Qx,Qy,Qh,Qz,Jy,Qi,Qb,Qj,Qk,Q0,Jz,Q1,Q2,J0,Q3,Q4,J1,Ql,Qm,Qn,Q5,Qo,Q6,Qp,Q7,Q8,J2,Q9,Ja,J3,J4,J5,Jb,J6,J7,Jc,J8,J9,Jd,Je,Ya,Jf,Yb,Jg,Jh,Y8,Yc,Ji,Yd,Ye,Yf,Yg,Yh,Y2,Jj,Qq,Jk,Yi,Jl,Jm,Yj,Y3,Yk,Yl,Y4,Ym,Y5,Yn,Qc,Yo,Jn,Yp,Yq,Y6,Yr,Qd,Jo,Jp,Y7,Ys,Yt,Yu,Yv,Yw,Yx,Jq,Jr,Qr,Js,Yy,Qe,Qs,List.set_cons_zero,List.set_cons_succ,List.map_cons,List.map_nil,List.replicate,List.cons_append,List.nil_append,List.length_cons,List.length_nil,Bool.false_eq_true,eq_self,if_true,if_false,Nat.zero_add,Jt,Yz,Ju,Jv,Jw,Y0,Jx,true_and,Bool.not_false]
        exact fin_any (fun n => nofun) hT
      | true =>
        obtain ⟨zs, rfl, _, _, _⟩ := lots_words el
        have hT : T (.bl (isLotsD (.tup (zs.map .str)) && (isTupD p && (isTupD q && restD (.tup (zs.map .str)) p q)))) s := hT
        rw [el] at hT
        simp only [Y1,Qf,Qt,Qu,Qa,Qg,Qv,Qw,Qx,Qy,Qh,Qz,Jy,Qi,Qb,Qj,Qk,Q0,Jz,Q1,Q2,J0,Q3,Q4,J1,Ql,Qm,Qn,Q5,Qo,Q6,Qp,Q7,Q8,J2,Q9,Ja,J3,J4,J5,Jb,J6,J7,Jc,J8,J9,Jd,Je,Ya,Jf,Yb,Jg,Jh,Y8,Yc,Ji,Yd,Ye,Yf,Yg,Yh,Y2,Jj,Qq,Jk,Yi,Jl,Jm,Yj,Y3,Yk,Yl,Y4,Ym,Y5,Yn,Qc,Yo,Jn,Yp,Yq,Y6,Yr,Qd,Jo,Jp,Y7,Ys,Yt,Yu,Yv,Yw,Yx,Jq,Jr,Qr,Js,Yy,Qe,Qs,List.set_cons_zero,List.set_cons_succ,List.map_cons,List.map_nil,List.replicate,List.cons_append,List.nil_append,List.length_cons,List.length_nil,Bool.false_eq_true,eq_self,if_true,if_false,Nat.zero_add,Jt,Yz,Ju,Jv,Jw,Y0,Jx,true_and,Bool.not_true,i1,ok_isi,kIsi_ap]
        refine ⟨tp.okX, ?_⟩
        rw [ty_tup tp.g]
        cases ep : isTupD p with
        | false =>
          rw [ep] at hT
          simp only [Y1,Qf,Qt,Qu,Qa,Qg,Qv,Qw,Qx,Qy,Qh,Qz,Jy,Qi,Qb,Qj,Qk,Q0,Jz,Q1,Q2,J0,Q3,Q4,J1,Ql,Qm,Qn,Q5,Qo,Q6,Qp,Q7,Q8,J2,Q9,Ja,J3,J4,J5,Jb,J6,J7,Jc,J8,J9,Jd,Je,Ya,Jf,Yb,Jg,Jh,Y8,Yc,Ji,Yd,Ye,Yf,Yg,Yh,Y2,Jj,Qq,Jk,Yi,Jl,Jm,Yj,Y3,Yk,Yl,Y4,Ym,Y5,Yn,Qc,Yo,Jn,Yp,Yq,Y6,Yr,Qd,Jo,Jp,Y7,Ys,Yt,Yu,Yv,Yw,Yx,Jq,Jr,Qr,Js,Yy,Qe,Qs,List.set_cons_zero,List.set_cons_succ,List.map_cons,List.map_nil,List.replicate,List.cons_append,List.nil_append,List.length_cons,List.length_nil,Bool.false_eq_true,eq_self,if_true,if_false,Nat.zero_add,Jt,Yz,Ju,Jv,Jw,Y0,Jx,true_and,Bool.not_false]
          exact fin_any (fun n => nofun) hT
        | true =>
          rw [ep] at hT
          simp only [Y1,Qf,Qt,Qu,Qa,Qg,Qv,Qw,Qx,Qy,Qh,Qz,Jy,Qi,Qb,Qj,Qk,Q0,Jz,Q1,Q2,J0,Q3,Q4,J1,Ql,Qm,Qn,Q5,Qo,Q6,Qp,Q7,Q8,J2,Q9,Ja,J3,J4,J5,Jb,J6,J7,Jc,J8,J9,Jd,Je,Ya,Jf,Yb,Jg,Jh,Y8,Yc,Ji,Yd,Ye,Yf,Yg,Yh,Y2,Jj,Qq,Jk,Yi,Jl,Jm,Yj,Y3,Yk,Yl,Y4,Ym,Y5,Yn,Qc,Yo,Jn,Yp,Yq,Y6,Yr,Qd,Jo,Jp,Y7,Ys,Yt,Yu,Yv,Yw,Yx,Jq,Jr,Qr,Js,Yy,Qe,Qs,List.set_cons_zero,List.set_cons_succ,List.map_cons,List.map_nil,List.replicate,List.cons_append,List.nil_append,List.length_cons,List.length_nil,Bool.false_eq_true,eq_self,if_true,if_false,Nat.zero_add,Jt,Yz,Ju,Jv,Jw,Y0,Jx,true_and,Bool.not_true,i2,ok_isi,kIsi_ap]
          refine ⟨tq.okX, ?_⟩
          rw [ty_tup tq.g]
          cases eq : isTupD q with
          | false =>
            rw [eq] at hT
            simp only [Y1,Qf,Qt,Qu,Qa,Qg,Qv,Qw,Qx,Qy,Qh,Qz,Jy,Qi,Qb,Qj,Qk,Q0,Jz,Q1,Q2,J0,Q3,Q4,J1,Ql,Qm,Qn,Q5,Qo,Q6,Qp,Q7,Q8,J2,Q9,Ja,J3,J4,J5,Jb,J6,J7,Jc,J8,J9,Jd,Je,Ya,Jf,Yb,Jg,Jh,Y8,Yc,Ji,Yd,Ye,Yf,Yg,Yh,Y2,Jj,Qq,Jk,Yi,Jl,Jm,Yj,Y3,Yk,Yl,Y4,Ym,Y5,Yn,Qc,Yo,Jn,Yp,Yq,Y6,Yr,Qd,Jo,Jp,Y7,Ys,Yt,Yu,Yv,Yw,Yx,Jq,Jr,Qr,Js,Yy,Qe,Qs,List.set_cons_zero,List.set_cons_succ,List.map_cons,List.map_nil,List.replicate,List.cons_append,List.nil_append,List.length_cons,List.length_nil,Bool.false_eq_true,eq_self,if_true,if_false,Nat.zero_add,Jt,Yz,Ju,Jv,Jw,Y0,Jx,true_and,Bool.not_false]
            exact fin_any (fun n => nofun) hT
          | true =>
            rw [eq] at hT
            obtain ⟨ps, rfl⟩ := isTup_of ep
            obtain ⟨qs, rfl⟩ := isTup_of eq
            rw [restD_t] at hT
            simp only [Bool.true_and] at hT
            simp only [Y1,Qf,Qt,Qu,Qa,Qg,Qv,Qw,Qx,Qy,Qh,Qz,Jy,Qi,Qb,Qj,Qk,Q0,Jz,Q1,Q2,J0,Q3,Q4,J1,Ql,Qm,Qn,Q5,Qo,Q6,Qp,Q7,Q8,J2,Q9,Ja,J3,J4,J5,Jb,J6,J7,Jc,J8,J9,Jd,Je,Ya,Jf,Yb,Jg,Jh,Y8,Yc,Ji,Yd,Ye,Yf,Yg,Yh,Y2,Jj,Qq,Jk,Yi,Jl,Jm,Yj,Y3,Yk,Yl,Y4,Ym,Y5,Yn,Qc,Yo,Jn,Yp,Yq,Y6,Yr,Qd,Jo,Jp,Y7,Ys,Yt,Yu,Yv,Yw,Yx,Jq,Jr,Qr,Js,Yy,Qe,Qs,List.set_cons_zero,List.set_cons_succ,List.map_cons,List.map_nil,List.replicate,List.cons_append,List.nil_append,List.length_cons,List.length_nil,Bool.false_eq_true,eq_self,if_true,if_false,Nat.zero_add,Jt,Yz,Ju,Jv,Jw,Y0,Jx,true_and,Bool.not_true]
            refine count11c_spec hbc hp tp (fun e5 => ?_) fun e5 => ?_
            · rw [e5] at hT
              simp only [Y1,Qf,Qt,Qu,Qa,Qg,Qv,Qw,Qx,Qy,Qh,Qz,Jy,Qi,Qb,Qj,Qk,Q0,Jz,Q1,Q2,J0,Q3,Q4,J1,Ql,Qm,Qn,Q5,Qo,Q6,Qp,Q7,Q8,J2,Q9,Ja,J3,J4,J5,Jb,J6,J7,Jc,J8,J9,Jd,Je,Ya,Jf,Yb,Jg,Jh,Y8,Yc,Ji,Yd,Ye,Yf,Yg,Yh,Y2,Jj,Qq,Jk,Yi,Jl,Jm,Yj,Y3,Yk,Yl,Y4,Ym,Y5,Yn,Qc,Yo,Jn,Yp,Yq,Y6,Yr,Qd,Jo,Jp,Y7,Ys,Yt,Yu,Yv,Yw,Yx,Jq,Jr,Qr,Js,Yy,Qe,Qs,List.set_cons_zero,List.set_cons_succ,List.map_cons,List.map_nil,List.replicate,List.cons_append,List.nil_append,List.length_cons,List.length_nil,Bool.false_eq_true,eq_self,if_true,if_false,Nat.zero_add,Jt,Yz,Ju,Jv,Jw,Y0,Jx,true_and]
              refine count11d_spec hbd hn tq ?_
              simp only [Y1,Qf,Qt,Qu,Qa,Qg,Qv,Qw,Qx,Qy,Qh,Qz,Jy,Qi,Qb,Qj,Qk,Q0,Jz,Q1,Q2,J0,Q3,Q4,J1,Ql,Qm,Qn,Q5,Qo,Q6,Qp,Q7,Q8,J2,Q9,Ja,J3,J4,J5,Jb,J6,J7,Jc,J8,J9,Jd,Je,Ya,Jf,Yb,Jg,Jh,Y8,Yc,Ji,Yd,Ye,Yf,Yg,Yh,Y2,Jj,Qq,Jk,Yi,Jl,Jm,Yj,Y3,Yk,Yl,Y4,Ym,Y5,Yn,Qc,Yo,Jn,Yp,Yq,Y6,Yr,Qd,Jo,Jp,Y7,Ys,Yt,Yu,Yv,Yw,Yx,Jq,Jr,Qr,Js,Yy,Qe,Qs,List.set_cons_zero,List.set_cons_succ,List.map_cons,List.map_nil,List.replicate,List.cons_append,List.nil_append,List.length_cons,List.length_nil,Bool.false_eq_true,eq_self,if_true,if_false,Nat.zero_add,Jt,Yz,Ju,Jv,Jw,Y0,Jx,true_and]
              exact fin_any (fun n => nofun) hT
            · rw [e5] at hT
              simp only [Y1,Qf,Qt,Qu,Qa,Qg,Qv,Qw,Qx,Qy,Qh,Qz,Jy,Qi,Qb,Qj,Qk,Q0,Jz,Q1,Q2,J0,Q3,Q4,J1,Ql,Qm,Qn,Q5,Qo,Q6,Qp,Q7,Q8,J2,Q9,Ja,J3,J4,J5,Jb,J6,J7,Jc,J8,J9,Jd,Je,Ya,Jf,Yb,Jg,Jh,Y8,Yc,Ji,Yd,Ye,Yf,Yg,Yh,Y2,Jj,Qq,Jk,Yi,Jl,Jm,Yj,Y3,Yk,Yl,Y4,Ym,Y5,Yn,Qc,Yo,Jn,Yp,Yq,Y6,Yr,Qd,Jo,Jp,Y7,Ys,Yt,Yu,Yv,Yw,Yx,Jq,Jr,Qr,Js,Yy,Qe,Qs,List.set_cons_zero,List.set_cons_succ,List.map_cons,List.map_nil,List.replicate,List.cons_append,List.nil_append,List.length_cons,List.length_nil,Bool.false_eq_true,eq_self,if_true,if_false,Nat.zero_add,Jt,Yz,Ju,Jv,Jw,Y0,Jx,true_and]
              exact fin_any (fun n => nofun) hT
    · rw [show (!((ds.length : Int) == 3)) = true by
        rw [Bool.not_eq_true', beq_eq_false_iff_ne]; omega]
      rw [count_not3 h3] at hT
      simp only [Y1,Qf,Qt,Qu,Qa,Qg,Qv,Qw,Qx,Qy,Qh,Qz,Jy,Qi,Qb,Qj,Qk,Q0,Jz,Q1,Q2,J0,Q3,Q4,J1,Ql,Qm,Qn,Q5,Qo,Q6,Qp,Q7,Q8,J2,Q9,Ja,J3,J4,J5,Jb,J6,J7,Jc,J8,J9,Jd,Je,Ya,Jf,Yb,Jg,Jh,Y8,Yc,Ji,Yd,Ye,Yf,Yg,Yh,Y2,Jj,Qq,Jk,Yi,Jl,Jm,Yj,Y3,Yk,Yl,Y4,Ym,Y5,Yn,Qc,Yo,Jn,Yp,Yq,Y6,Yr,Qd,Jo,Jp,Y7,Ys,Yt,Yu,Yv,Yw,Yx,Jq,Jr,Qr,Js,Yy,Qe,Qs,List.set_cons_zero,List.set_cons_succ,List.map_cons,List.map_nil,List.replicate,List.cons_append,List.nil_append,List.length_cons,List.length_nil,Bool.false_eq_true,eq_self,if_true,if_false,Nat.zero_add,Jt,Yz,Ju,Jv,Jw,Y0,Jx,true_and]
      exact fin_any (fun n => nofun) hT
end Z

namespace Z
open PySem PySem.Spec L2

/-! ### the law's own look at words, lots, tallies -/
def bWordL1 : Fn Ct :=
  fSeq (fIfS (fOrT (fNotT (fTest (fIsi "str" (fVar 0)))) (fOrT (fTest (fBin gLt (fCall gLen (fCons (fVar 0) (fNil))) (fC (.int 1)))) (fTest (fBin gGt (fCall gLen (fCons (fVar 0) (fNil))) (fC (.int 8)))))) (fRet (fC (.bl false))) (fNop))
  (fRet (fBin gEq (fVal (fLc (fSrcS (fVar 0)) [1] (gNm 1) (fTest (fBin gNotIn (fVar 1) (fC (.str (Str.ofString "abcdefghijklmnopqrstuvwxyz"))))) (fVar 1))) (fVal (fLst (fNil)))))
theorem wordL1 : ThS (fDef 1 2 bWordL1) isWordD := by
  intro d s T h hT
  rw [ok_def]
  refine ⟨rfl, ?_⟩
  unfold bWordL1
  simp only [Y1,Qf,Qt,Qu,Qa,Qg,Qv,Qw,Qx,Qy,Qh,Qz,Jy,Qi,Qb,Qj,Qk,Q0,Jz,Q1,Q2,J0,Q3,Q4,J1,Ql,Qm,Qn,Q5,Qo,Q6,Qp,Q7,Q8,J2,Q9,Ja,J3,J4,J5,Jb,J6,J7,Jc,J8,J9,Jd,Je,Ya,Jf,Yb,Jg,Jh,Y8,Yc,Ji,Yd,Ye,Yf,Yg,Yh,Y2,Jj,Qq,Jk,Yi,Jl,Jm,Yj,Y3,Yk,Yl,Y4,Ym,Y5,Yn,Qc,Yo,Jn,Yp,Yq,Y6,Yr,Qd,Jo,Jp,Y7,Ys,Yt,Yu,Yv,Yw,Yx,Jq,Jr,Qr,Js,Yy,Qe,Qs,List.set_cons_zero,List.set_cons_succ,List.map_cons,List.map_nil,List.replicate,List.cons_append,List.nil_append,List.length_cons,List.length_nil,Bool.false_eq_true,eq_self,if_true,if_false,Nat.zero_add,Jt,Yz,Ju,Jv,Jw,Y0,Jx,true_and,ok_isi,kIsi_ap]
  refine ⟨h.okX, ?_⟩
  rw [ty_str h.g]
  have no : isStrD d = false → isWordD d = false := fun e => by
    cases d with
    | str z => cases e
    | _ => rfl
  cases e : isStrD d with
  | false =>
    rw [no e] at hT
    simp only [Y1,Qf,Qt,Qu,Qa,Qg,Qv,Qw,Qx,Qy,Qh,Qz,Jy,Qi,Qb,Qj,Qk,Q0,Jz,Q1,Q2,J0,Q3,Q4,J1,Ql,Qm,Qn,Q5,Qo,Q6,Qp,Q7,Q8,J2,Q9,Ja,J3,J4,J5,Jb,J6,J7,Jc,J8,J9,Jd,Je,Ya,Jf,Yb,Jg,Jh,Y8,Yc,Ji,Yd,Ye,Yf,Yg,Yh,Y2,Jj,Qq,Jk,Yi,Jl,Jm,Yj,Y3,Yk,Yl,Y4,Ym,Y5,Yn,Qc,Yo,Jn,Yp,Yq,Y6,Yr,Qd,Jo,Jp,Y7,Ys,Yt,Yu,Yv,Yw,Yx,Jq,Jr,Qr,Js,Yy,Qe,Qs,List.set_cons_zero,List.set_cons_succ,List.map_cons,List.map_nil,List.replicate,List.cons_append,List.nil_append,List.length_cons,List.length_nil,Bool.false_eq_true,eq_self,if_true,if_false,Nat.zero_add,Jt,Yz,Ju,Jv,Jw,Y0,Jx,true_and,Bool.not_false]
    exact fin_any (fun n => nofun) hT
  | true =>
    obtain ⟨z, rfl⟩ : ∃ z, d = .str z := by
      cases d with
      | str z => exact ⟨z, rfl⟩
      | _ => cases e
    obtain ⟨hz1, hz2⟩ := h.str
    simp only [Y1,Qf,Qt,Qu,Qa,Qg,Qv,Qw,Qx,Qy,Qh,Qz,Jy,Qi,Qb,Qj,Qk,Q0,Jz,Q1,Q2,J0,Q3,Q4,J1,Ql,Qm,Qn,Q5,Qo,Q6,Qp,Q7,Q8,J2,Q9,Ja,J3,J4,J5,Jb,J6,J7,Jc,J8,J9,Jd,Je,Ya,Jf,Yb,Jg,Jh,Y8,Yc,Ji,Yd,Ye,Yf,Yg,Yh,Y2,Jj,Qq,Jk,Yi,Jl,Jm,Yj,Y3,Yk,Yl,Y4,Ym,Y5,Yn,Qc,Yo,Jn,Yp,Yq,Y6,Yr,Qd,Jo,Jp,Y7,Ys,Yt,Yu,Yv,Yw,Yx,Jq,Jr,Qr,Js,Yy,Qe,Qs,List.set_cons_zero,List.set_cons_succ,List.map_cons,List.map_nil,List.replicate,List.cons_append,List.nil_append,List.length_cons,List.length_nil,Bool.false_eq_true,eq_self,if_true,if_false,Nat.zero_add,Jt,Yz,Ju,Jv,Jw,Y0,Jx,true_and,Bool.not_true,len_str (show z.length ≤ 16777216 by omega),Z.lt_int,Z.gt_int]
    have hw : isWordD (.str z) = (decide (1 ≤ z.length) && decide (z.length ≤ 8) && z.cps.toList.all isLet) := rfl
    rw [hw] at hT
    by_cases h1 : 1 ≤ z.length
    · rw [decide_eq_false (show ¬ (z.length : Int) < 1 by omega)]
      rw [decide_eq_true h1] at hT
      simp only [Y1,Qf,Qt,Qu,Qa,Qg,Qv,Qw,Qx,Qy,Qh,Qz,Jy,Qi,Qb,Qj,Qk,Q0,Jz,Q1,Q2,J0,Q3,Q4,J1,Ql,Qm,Qn,Q5,Qo,Q6,Qp,Q7,Q8,J2,Q9,Ja,J3,J4,J5,Jb,J6,J7,Jc,J8,J9,Jd,Je,Ya,Jf,Yb,Jg,Jh,Y8,Yc,Ji,Yd,Ye,Yf,Yg,Yh,Y2,Jj,Qq,Jk,Yi,Jl,Jm,Yj,Y3,Yk,Yl,Y4,Ym,Y5,Yn,Qc,Yo,Jn,Yp,Yq,Y6,Yr,Qd,Jo,Jp,Y7,Ys,Yt,Yu,Yv,Yw,Yx,Jq,Jr,Qr,Js,Yy,Qe,Qs,List.set_cons_zero,List.set_cons_succ,List.map_cons,List.map_nil,List.replicate,List.cons_append,List.nil_append,List.length_cons,List.length_nil,Bool.false_eq_true,eq_self,if_true,if_false,Nat.zero_add,Jt,Yz,Ju,Jv,Jw,Y0,Jx,true_and,len_str (show z.length ≤ 16777216 by omega),Z.gt_int]
      by_cases h8 : z.length ≤ 8
      · rw [decide_eq_false (show ¬ (8 : Int) < z.length by omega)]
        rw [decide_eq_true h8] at hT
        simp only [Y1,Qf,Qt,Qu,Qa,Qg,Qv,Qw,Qx,Qy,Qh,Qz,Jy,Qi,Qb,Qj,Qk,Q0,Jz,Q1,Q2,J0,Q3,Q4,J1,Ql,Qm,Qn,Q5,Qo,Q6,Qp,Q7,Q8,J2,Q9,Ja,J3,J4,J5,Jb,J6,J7,Jc,J8,J9,Jd,Je,Ya,Jf,Yb,Jg,Jh,Y8,Yc,Ji,Yd,Ye,Yf,Yg,Yh,Y2,Jj,Qq,Jk,Yi,Jl,Jm,Yj,Y3,Yk,Yl,Y4,Ym,Y5,Yn,Qc,Yo,Jn,Yp,Yq,Y6,Yr,Qd,Jo,Jp,Y7,Ys,Yt,Yu,Yv,Yw,Yx,Jq,Jr,Qr,Js,Yy,Qe,Qs,List.set_cons_zero,List.set_cons_succ,List.map_cons,List.map_nil,List.replicate,List.cons_append,List.nil_append,List.length_cons,List.length_nil,Bool.false_eq_true,eq_self,if_true,if_false,Nat.zero_add,Jt,Yz,Ju,Jv,Jw,Y0,Jx,true_and,Bool.not_true,ok_srcS,kSrcS_str]
        refine ⟨decide_eq_true (by simp only [charsD, List.length_map, Array.length_toList]; show z.cps.size < _; have : z.cps.size = z.length := rfl; omega), ?_⟩
        refine ok_pick (xs := z.cps.toList) (enc := fun c => Dv.str ⟨#[c]⟩) (p := fun c => !isLet c) (f := fun c => Dv.str ⟨#[c]⟩) (fun c hc => ?_) ?_
        · simp only [Y1,Qf,Qt,Qu,Qa,Qg,Qv,Qw,Qx,Qy,Qh,Qz,Jy,Qi,Qb,Qj,Qk,Q0,Jz,Q1,Q2,J0,Q3,Q4,J1,Ql,Qm,Qn,Q5,Qo,Q6,Qp,Q7,Q8,J2,Q9,Ja,J3,J4,J5,Jb,J6,J7,Jc,J8,J9,Jd,Je,Ya,Jf,Yb,Jg,Jh,Y8,Yc,Ji,Yd,Ye,Yf,Yg,Yh,Y2,Jj,Qq,Jk,Yi,Jl,Jm,Yj,Y3,Yk,Yl,Y4,Ym,Y5,Yn,Qc,Yo,Jn,Yp,Yq,Y6,Yr,Qd,Jo,Jp,Y7,Ys,Yt,Yu,Yv,Yw,Yx,Jq,Jr,Qr,Js,Yy,Qe,Qs,List.set_cons_zero,List.set_cons_succ,List.map_cons,List.map_nil,List.replicate,List.cons_append,List.nil_append,List.length_cons,List.length_nil,Bool.false_eq_true,eq_self,if_true,if_false,Nat.zero_add,Jt,Yz,Ju,Jv,Jw,Y0,Jx,true_and,wipeZ,notin_letters]
          exact fun _ => trivial
        · have hg : gbs 1 ((z.cps.toList.filter fun c => !isLet c).map fun c => Dv.str ⟨#[c]⟩) = true := gbs_all fun d hd => by
            obtain ⟨c, hc, rfl⟩ := List.mem_map.mp hd
            exact gb_str.mpr ⟨strOk_char hz1 (List.mem_filter.mp hc).1, by show 1 ≤ 4096; omega⟩
          simp only [Y1,Qf,Qt,Qu,Qa,Qg,Qv,Qw,Qx,Qy,Qh,Qz,Jy,Qi,Qb,Qj,Qk,Q0,Jz,Q1,Q2,J0,Q3,Q4,J1,Ql,Qm,Qn,Q5,Qo,Q6,Qp,Q7,Q8,J2,Q9,Ja,J3,J4,J5,Jb,J6,J7,Jc,J8,J9,Jd,Je,Ya,Jf,Yb,Jg,Jh,Y8,Yc,Ji,Yd,Ye,Yf,Yg,Yh,Y2,Jj,Qq,Jk,Yi,Jl,Jm,Yj,Y3,Yk,Yl,Y4,Ym,Y5,Yn,Qc,Yo,Jn,Yp,Yq,Y6,Yr,Qd,Jo,Jp,Y7,Ys,Yt,Yu,Yv,Yw,Yx,Jq,Jr,Qr,Js,Yy,Qe,Qs,List.set_cons_zero,List.set_cons_succ,List.map_cons,List.map_nil,List.replicate,List.cons_append,List.nil_append,List.length_cons,List.length_nil,Bool.false_eq_true,eq_self,if_true,if_false,Nat.zero_add,Jt,Yz,Ju,Jv,Jw,Y0,Jx,true_and]
          refine ⟨by decide, ?_⟩
          rw [eqL_nil hg (by omega), Y1]
          simp only [Y1,Qf,Qt,Qu,Qa,Qg,Qv,Qw,Qx,Qy,Qh,Qz,Jy,Qi,Qb,Qj,Qk,Q0,Jz,Q1,Q2,J0,Q3,Q4,J1,Ql,Qm,Qn,Q5,Qo,Q6,Qp,Q7,Q8,J2,Q9,Ja,J3,J4,J5,Jb,J6,J7,Jc,J8,J9,Jd,Je,Ya,Jf,Yb,Jg,Jh,Y8,Yc,Ji,Yd,Ye,Yf,Yg,Yh,Y2,Jj,Qq,Jk,Yi,Jl,Jm,Yj,Y3,Yk,Yl,Y4,Ym,Y5,Yn,Qc,Yo,Jn,Yp,Yq,Y6,Yr,Qd,Jo,Jp,Y7,Ys,Yt,Yu,Yv,Yw,Yx,Jq,Jr,Qr,Js,Yy,Qe,Qs,List.set_cons_zero,List.set_cons_succ,List.map_cons,List.map_nil,List.replicate,List.cons_append,List.nil_append,List.length_cons,List.length_nil,Bool.false_eq_true,eq_self,if_true,if_false,Nat.zero_add,Jt,Yz,Ju,Jv,Jw,Y0,Jx,true_and]
          refine fin_any (fun n => nofun) ?_
          have e : ((z.cps.toList.filter fun c => !isLet c).map fun c => Dv.str ⟨#[c]⟩).isEmpty = z.cps.toList.all isLet := by
            rw [List.isEmpty_map]
            cases e2 : z.cps.toList.all isLet with
            | true =>
              have h3 := List.all_eq_true.mp e2
              rw [List.filter_eq_nil_iff.mpr fun c hc => by rw [h3 c hc]; decide]; rfl
            | false =>
              cases e3 : z.cps.toList.filter fun c => !isLet c with
              | cons x l => rfl
              | nil =>
                have h3 := List.filter_eq_nil_iff.mp e3
                have : z.cps.toList.all isLet = true := List.all_eq_true.mpr fun c hc => by
                  have := h3 c hc
                  simpa using this
                rw [this] at e2; cases e2
          rw [e]
          exact hT
      · rw [decide_eq_true (show (8 : Int) < z.length by omega)]
        rw [decide_eq_false h8] at hT
        simp only [Y1,Qf,Qt,Qu,Qa,Qg,Qv,Qw,Qx,Qy,Qh,Qz,Jy,Qi,Qb,Qj,Qk,Q0,Jz,Q1,Q2,J0,Q3,Q4,J1,Ql,Qm,Qn,Q5,Qo,Q6,Qp,Q7,Q8,J2,Q9,Ja,J3,J4,J5,Jb,J6,J7,Jc,J8,J9,Jd,Je,Ya,Jf,Yb,Jg,Jh,Y8,Yc,Ji,Yd,Ye,Yf,Yg,Yh,Y2,Jj,Qq,Jk,Yi,Jl,Jm,Yj,Y3,Yk,Yl,Y4,Ym,Y5,Yn,Qc,Yo,Jn,Yp,Yq,Y6,Yr,Qd,Jo,Jp,Y7,Ys,Yt,Yu,Yv,Yw,Yx,Jq,Jr,Qr,Js,Yy,Qe,Qs,List.set_cons_zero,List.set_cons_succ,List.map_cons,List.map_nil,List.replicate,List.cons_append,List.nil_append,List.length_cons,List.length_nil,Bool.false_eq_true,eq_self,if_true,if_false,Nat.zero_add,Jt,Yz,Ju,Jv,Jw,Y0,Jx,true_and]
        exact fin_any (fun n => nofun) hT
    · rw [decide_eq_true (show (z.length : Int) < 1 by omega)]
      rw [decide_eq_false h1] at hT
      simp only [Y1,Qf,Qt,Qu,Qa,Qg,Qv,Qw,Qx,Qy,Qh,Qz,Jy,Qi,Qb,Qj,Qk,Q0,Jz,Q1,Q2,J0,Q3,Q4,J1,Ql,Qm,Qn,Q5,Qo,Q6,Qp,Q7,Q8,J2,Q9,Ja,J3,J4,J5,Jb,J6,J7,Jc,J8,J9,Jd,Je,Ya,Jf,Yb,Jg,Jh,Y8,Yc,Ji,Yd,Ye,Yf,Yg,Yh,Y2,Jj,Qq,Jk,Yi,Jl,Jm,Yj,Y3,Yk,Yl,Y4,Ym,Y5,Yn,Qc,Yo,Jn,Yp,Yq,Y6,Yr,Qd,Jo,Jp,Y7,Ys,Yt,Yu,Yv,Yw,Yx,Jq,Jr,Qr,Js,Yy,Qe,Qs,List.set_cons_zero,List.set_cons_succ,List.map_cons,List.map_nil,List.replicate,List.cons_append,List.nil_append,List.length_cons,List.length_nil,Bool.false_eq_true,eq_self,if_true,if_false,Nat.zero_add,Jt,Yz,Ju,Jv,Jw,Y0,Jx,true_and]
      exact fin_any (fun n => nofun) hT
def TallyOf (φ : Phi) : Prop := ∀ (ls : List Dv) (d : Dv) (s : Sto) (T : Dv → Sto → Prop), ls.length ≤ 1000 → Thg d → T (.bl (isTallyD ls.length d)) s → OkE nX (φ [.tup ls, d] s) T
def bIsTally (φf : Phi) : Fn Ct :=
  fSeq (fIfS (fOrT (fNotT (fTest (fIsi "tuple" (fVar 1)))) (fTest (fBin gNe (fCall gLen (fCons (fVar 1) (fNil))) (fCall gLen (fCons (fVar 0) (fNil)))))) (fRet (fC (.bl false))) (fNop))
  (fRet (fCall gAll (fCons (fVal (fLc (fSrc (fVar 1)) [2] (gNm 2) (fYes) (fCall φf (fCons (fVar 2) (fNil))))) (fNil))))
def bIsTallyL (φn : Phi) : Fn Ct :=
  fSeq (fIfS (fOrT (fNotT (fTest (fIsi "tuple" (fVar 1)))) (fTest (fBin gNe (fCall gLen (fCons (fVar 1) (fNil))) (fCall gLen (fCons (fVar 0) (fNil)))))) (fRet (fC (.bl false))) (fNop))
  (fRet (fBin gEq (fVal (fLc (fSrc (fVar 1)) [2] (gNm 2) (fOrT (fNotT (fTest (fCall φn (fCons (fVar 2) (fNil))))) (fTest (fBin gLt (fVar 2) (fC (.int 0))))) (fVar 2))) (fVal (fLst (fNil)))))
def lAdjT : Fn Bool := fTest (fBin gEq (fBin gIx (fVar 1) (fBin gSub (fVar 2) (fC (.int 1)))) (fBin gIx (fVar 1) (fVar 2)))
def lAdj (tt : Fn Bool) : Fn (List Dv) := fLc (fRng2 (fCons (fC (.int 1)) (fCons (fCall gLen (fCons (fVar 1) (fNil))) (fNil)))) [2] (gNm 2) tt (fVar 2)
def bIsLotsL2 : Fn Ct :=
  (fSeq (fSet 1 (fVal (fCallL gSorted (fCons (fVar 0) (fNil)))))
  (fRet (fBin gEq (fVal (lAdj lAdjT)) (fVal (fLst (fNil))))))
def bIsLotsL (φw : Phi) : Fn Ct :=
  fSeq (fIfS (fOrT (fNotT (fTest (fIsi "tuple" (fVar 0)))) (fOrT (fTest (fBin gLt (fCall gLen (fCons (fVar 0) (fNil))) (fC (.int 2)))) (fTest (fBin gNe (fVal (fLc (fSrc (fVar 0)) [3] (gNm 3) (fNotT (fTest (fCall φw (fCons (fVar 3) (fNil))))) (fVar 3))) (fVal (fLst (fNil))))))) (fRet (fC (.bl false))) (fNop))
  bIsLotsL2
end Z

namespace Z
open PySem PySem.Spec L2

/-! ### a count, by the law's look -/
theorem shapeA {n : Nat} {d : Dv} (h : gb n d = true) (hn : n ≤ 38) {s : Sto} : pyOf s d = some (pd d) ∧ SeqAt.shaped (pd d) = true := by
  obtain ⟨h1, h2, h3, h4, h5⟩ := gb_ok h
  refine ⟨py_gb h (by omega), ?_⟩
  simp [SeqAt.shaped, h1]; omega
def isNilT : Dv → Bool
  | .tup ds => ds.isEmpty
  | _ => false
theorem eq_nilD {d : Dv} (h : Thg d) {s : Sto} : gEq d (.tup []) s = .ok (.bl (isNilT d)) s := by
  have key : ∀ d : Dv, Thg d → (∀ ds, d ≠ .tup ds) → PyData.eqv (pd d) (pd (.tup [])) = false → (match pyOf s d, pyOf s (.tup []) with | some p, some q => Rs.iff (SeqAt.shaped p && SeqAt.shaped q) (Rs.ok (Dv.bl (PyData.eqv p q)) s) | _, _ => .bad) = Rs.ok (.bl false) s := fun d h _ he => by
    obtain ⟨a1, a2⟩ := shapeA h.g (by decide) (s := s)
    obtain ⟨b1, b2⟩ := shapeA (n := 1) (d := .tup []) (by simp [gb, gbs]) (by decide) (s := s)
    rw [a1, b1]
    show Rs.iff (SeqAt.shaped (pd d) && SeqAt.shaped (pd (.tup []))) _ = _
    rw [a2, b2, he]; rfl
  cases d with
  | tup ds => exact eqT_nil (n := 29) (by have := h.g; rwa [gb_tup] at this) (by decide)
  | non => exact key _ h nofun (by simp [pd, pds, PyData.eqv])
  | bl b => exact key _ h nofun (by simp [pd, pds, PyData.eqv])
  | int i => exact key _ h nofun (by simp [pd, pds, PyData.eqv])
  | str z => exact key _ h nofun (by simp [pd, pds, PyData.eqv])
  | ls ds => exact key _ h nofun (by simp [pd, pds, PyData.eqv])
  | loc n => exact absurd rfl (gb_noloc h.g n)
  | xn => have := h.g; simp [gb] at this
theorem filt_all {α : Type} {p q : α → Bool} (h : ∀ x, p x = !q x) : ∀ xs : List α, (xs.filter p).isEmpty = xs.all q
  | [] => rfl
  | x :: xs => by
    rw [List.filter_cons, List.all_cons, h x]
    cases q x with
    | true => simpa using filt_all h xs
    | false => simp
def bRis23a (φw : Phi) : Fn Ct := (fIfS (fTest (fBin gNe (fVal (fLc (fSrc (fVar 1)) [2] (gNm 2) (fOrT (fNotT (fTest (fCall φw (fCons (fVar 2) (fNil))))) (fTest (fBin gNotIn (fVar 2) (fVar 0)))) (fVar 2))) (fVal (fLst (fNil))))) (fRet (fC (.bl false))) (fNop))
def bRis23b : Fn Ct := (fRet (fBin gEq (fVal (fLc (fRng2 (fCons (fC (.int 1)) (fCons (fCall gLen (fCons (fVar 1) (fNil))) (fNil)))) [3] (gNm 3) (fTest (fBin gGe (fBin gIx (fVar 1) (fBin gSub (fVar 3) (fC (.int 1)))) (fBin gIx (fVar 1) (fVar 3)))) (fVar 3))) (fVal (fLst (fNil)))))
def bRis23 (ba bb : Fn Ct) : Fn Ct :=
  fSeq (fIfS (fNotT (fTest (fIsi "tuple" (fVar 1)))) (fRet (fC (.bl false))) (fNop))
  (fSeq ba bb)
theorem ris23a_spec {φw : Phi} {b : Fn Ct} (hb : b = bRis23a φw) (hw : ThS φw isWordD) {zs : List Str} {ds : List Dv} (h : Thg (.tup ds)) {v3 : Option Dv} {s : Sto} {R : Ct → Sto → Prop} (hR : ds.all (fun d => isWordD d && inZ zs d) = true → R (.next [some (encS zs), some (.tup ds), none, v3]) s) (hR2 : ds.all (fun d => isWordD d && inZ zs d) = false → R (.ret (.bl false)) s) :
    OkE nX (b [some (encS zs), some (.tup ds), none, v3] s) R := by
  subst hb
  obtain ⟨g, gw, gl⟩ := h.tup
  unfold bRis23a
  simp only [Y1,Qf,Qt,Qu,Qa,Qg,Qv,Qw,Qx,Qy,Qh,Qz,Jy,Qi,Qb,Qj,Qk,Q0,Jz,Q1,Q2,J0,Q3,Q4,J1,Ql,Qm,Qn,Q5,Qo,Q6,Qp,Q7,Q8,J2,Q9,Ja,J3,J4,J5,Jb,J6,J7,Jc,J8,J9,Jd,Je,Ya,Jf,Yb,Jg,Jh,Y8,Yc,Ji,Yd,Ye,Yf,Yg,Yh,Y2,Jj,Qq,Jk,Yi,Jl,Jm,Yj,Y3,Yk,Yl,Y4,Ym,Y5,Yn,Qc,Yo,Jn,Yp,Yq,Y6,Yr,Qd,Jo,Jp,Y7,Ys,Yt,Yu,Yv,Yw,Yx,Jq,Jr,Qr,Js,Yy,Qe,Qs,List.set_cons_zero,List.set_cons_succ,List.map_cons,List.map_nil,List.replicate,List.cons_append,List.nil_append,List.length_cons,List.length_nil,Bool.false_eq_true,eq_self,if_true,if_false,Nat.zero_add,Jt,Yz,Ju,Jv,Jw,Y0,Jx,true_and]
  refine ⟨decide_eq_true (by omega), ?_⟩
  refine ok_map (fun d => !(isWordD d && inZ zs d)) (fun d => d) (fun d hd => ?_) ?_
  · have td : Thg d := .of g gw hd
    simp only [Y1,Qf,Qt,Qu,Qa,Qg,Qv,Qw,Qx,Qy,Qh,Qz,Jy,Qi,Qb,Qj,Qk,Q0,Jz,Q1,Q2,J0,Q3,Q4,J1,Ql,Qm,Qn,Q5,Qo,Q6,Qp,Q7,Q8,J2,Q9,Ja,J3,J4,J5,Jb,J6,J7,Jc,J8,J9,Jd,Je,Ya,Jf,Yb,Jg,Jh,Y8,Yc,Ji,Yd,Ye,Yf,Yg,Yh,Y2,Jj,Qq,Jk,Yi,Jl,Jm,Yj,Y3,Yk,Yl,Y4,Ym,Y5,Yn,Qc,Yo,Jn,Yp,Yq,Y6,Yr,Qd,Jo,Jp,Y7,Ys,Yt,Yu,Yv,Yw,Yx,Jq,Jr,Qr,Js,Yy,Qe,Qs,List.set_cons_zero,List.set_cons_succ,List.map_cons,List.map_nil,List.replicate,List.cons_append,List.nil_append,List.length_cons,List.length_nil,Bool.false_eq_true,eq_self,if_true,if_false,Nat.zero_add,Jt,Yz,Ju,Jv,Jw,Y0,Jx,true_and,wipeZ]
    refine hw d s _ td ?_
    cases e : isWordD d with
    | false =>
      simp only [Y1,Qf,Qt,Qu,Qa,Qg,Qv,Qw,Qx,Qy,Qh,Qz,Jy,Qi,Qb,Qj,Qk,Q0,Jz,Q1,Q2,J0,Q3,Q4,J1,Ql,Qm,Qn,Q5,Qo,Q6,Qp,Q7,Q8,J2,Q9,Ja,J3,J4,J5,Jb,J6,J7,Jc,J8,J9,Jd,Je,Ya,Jf,Yb,Jg,Jh,Y8,Yc,Ji,Yd,Ye,Yf,Yg,Yh,Y2,Jj,Qq,Jk,Yi,Jl,Jm,Yj,Y3,Yk,Yl,Y4,Ym,Y5,Yn,Qc,Yo,Jn,Yp,Yq,Y6,Yr,Qd,Jo,Jp,Y7,Ys,Yt,Yu,Yv,Yw,Yx,Jq,Jr,Qr,Js,Yy,Qe,Qs,List.set_cons_zero,List.set_cons_succ,List.map_cons,List.map_nil,List.replicate,List.cons_append,List.nil_append,List.length_cons,List.length_nil,Bool.false_eq_true,eq_self,if_true,if_false,Nat.zero_add,Jt,Yz,Ju,Jv,Jw,Y0,Jx,true_and,Bool.not_false,Bool.false_and]
      all_goals first | trivial | exact ⟨rfl, rfl⟩ | exact ⟨rfl, trivial⟩
    | true =>
      obtain ⟨z, rfl⟩ := word_is e
      simp only [Y1,Qf,Qt,Qu,Qa,Qg,Qv,Qw,Qx,Qy,Qh,Qz,Jy,Qi,Qb,Qj,Qk,Q0,Jz,Q1,Q2,J0,Q3,Q4,J1,Ql,Qm,Qn,Q5,Qo,Q6,Qp,Q7,Q8,J2,Q9,Ja,J3,J4,J5,Jb,J6,J7,Jc,J8,J9,Jd,Je,Ya,Jf,Yb,Jg,Jh,Y8,Yc,Ji,Yd,Ye,Yf,Yg,Yh,Y2,Jj,Qq,Jk,Yi,Jl,Jm,Yj,Y3,Yk,Yl,Y4,Ym,Y5,Yn,Qc,Yo,Jn,Yp,Yq,Y6,Yr,Qd,Jo,Jp,Y7,Ys,Yt,Yu,Yv,Yw,Yx,Jq,Jr,Qr,Js,Yy,Qe,Qs,List.set_cons_zero,List.set_cons_succ,List.map_cons,List.map_nil,List.replicate,List.cons_append,List.nil_append,List.length_cons,List.length_nil,Bool.false_eq_true,eq_self,if_true,if_false,Nat.zero_add,Jt,Yz,Ju,Jv,Jw,Y0,Jx,true_and,Bool.not_true,notin_strs,Bool.true_and]
      refine ⟨rfl, ?_⟩
      show (if (!inZ zs (.str z)) = true then _ else _)
      split
      · simp only [Y1,Qf,Qt,Qu,Qa,Qg,Qv,Qw,Qx,Qy,Qh,Qz,Jy,Qi,Qb,Qj,Qk,Q0,Jz,Q1,Q2,J0,Q3,Q4,J1,Ql,Qm,Qn,Q5,Qo,Q6,Qp,Q7,Q8,J2,Q9,Ja,J3,J4,J5,Jb,J6,J7,Jc,J8,J9,Jd,Je,Ya,Jf,Yb,Jg,Jh,Y8,Yc,Ji,Yd,Ye,Yf,Yg,Yh,Y2,Jj,Qq,Jk,Yi,Jl,Jm,Yj,Y3,Yk,Yl,Y4,Ym,Y5,Yn,Qc,Yo,Jn,Yp,Yq,Y6,Yr,Qd,Jo,Jp,Y7,Ys,Yt,Yu,Yv,Yw,Yx,Jq,Jr,Qr,Js,Yy,Qe,Qs,List.set_cons_zero,List.set_cons_succ,List.map_cons,List.map_nil,List.replicate,List.cons_append,List.nil_append,List.length_cons,List.length_nil,Bool.false_eq_true,eq_self,if_true,if_false,Nat.zero_add,Jt,Yz,Ju,Jv,Jw,Y0,Jx,true_and]
      · trivial
  have hf : gbs 29 (((ds.filter fun d => !(isWordD d && inZ zs d)).map fun d => d)) = true := gbs_sub g fun d hd => by
    rw [List.map_id'] at hd
    exact (List.mem_filter.mp hd).1
  rw [List.map_id'] at hf ⊢
  simp only [Y1,Qf,Qt,Qu,Qa,Qg,Qv,Qw,Qx,Qy,Qh,Qz,Jy,Qi,Qb,Qj,Qk,Q0,Jz,Q1,Q2,J0,Q3,Q4,J1,Ql,Qm,Qn,Q5,Qo,Q6,Qp,Q7,Q8,J2,Q9,Ja,J3,J4,J5,Jb,J6,J7,Jc,J8,J9,Jd,Je,Ya,Jf,Yb,Jg,Jh,Y8,Yc,Ji,Yd,Ye,Yf,Yg,Yh,Y2,Jj,Qq,Jk,Yi,Jl,Jm,Yj,Y3,Yk,Yl,Y4,Ym,Y5,Yn,Qc,Yo,Jn,Yp,Yq,Y6,Yr,Qd,Jo,Jp,Y7,Ys,Yt,Yu,Yv,Yw,Yx,Jq,Jr,Qr,Js,Yy,Qe,Qs,List.set_cons_zero,List.set_cons_succ,List.map_cons,List.map_nil,List.replicate,List.cons_append,List.nil_append,List.length_cons,List.length_nil,Bool.false_eq_true,eq_self,if_true,if_false,Nat.zero_add,Jt,Yz,Ju,Jv,Jw,Y0,Jx,true_and,neL_nil hf (by decide),filt_all (p := fun d => !(isWordD d && inZ zs d)) (q := fun d => isWordD d && inZ zs d) (fun _ => rfl)]
  cases e : ds.all (fun d => isWordD d && inZ zs d) with
  | false => simp only [Y1,Qf,Qt,Qu,Qa,Qg,Qv,Qw,Qx,Qy,Qh,Qz,Jy,Qi,Qb,Qj,Qk,Q0,Jz,Q1,Q2,J0,Q3,Q4,J1,Ql,Qm,Qn,Q5,Qo,Q6,Qp,Q7,Q8,J2,Q9,Ja,J3,J4,J5,Jb,J6,J7,Jc,J8,J9,Jd,Je,Ya,Jf,Yb,Jg,Jh,Y8,Yc,Ji,Yd,Ye,Yf,Yg,Yh,Y2,Jj,Qq,Jk,Yi,Jl,Jm,Yj,Y3,Yk,Yl,Y4,Ym,Y5,Yn,Qc,Yo,Jn,Yp,Yq,Y6,Yr,Qd,Jo,Jp,Y7,Ys,Yt,Yu,Yv,Yw,Yx,Jq,Jr,Qr,Js,Yy,Qe,Qs,List.set_cons_zero,List.set_cons_succ,List.map_cons,List.map_nil,List.replicate,List.cons_append,List.nil_append,List.length_cons,List.length_nil,Bool.false_eq_true,eq_self,if_true,if_false,Nat.zero_add,Jt,Yz,Ju,Jv,Jw,Y0,Jx,true_and,Bool.not_false]; exact ⟨rfl, hR2 e⟩
  | true => simp only [Y1,Qf,Qt,Qu,Qa,Qg,Qv,Qw,Qx,Qy,Qh,Qz,Jy,Qi,Qb,Qj,Qk,Q0,Jz,Q1,Q2,J0,Q3,Q4,J1,Ql,Qm,Qn,Q5,Qo,Q6,Qp,Q7,Q8,J2,Q9,Ja,J3,J4,J5,Jb,J6,J7,Jc,J8,J9,Jd,Je,Ya,Jf,Yb,Jg,Jh,Y8,Yc,Ji,Yd,Ye,Yf,Yg,Yh,Y2,Jj,Qq,Jk,Yi,Jl,Jm,Yj,Y3,Yk,Yl,Y4,Ym,Y5,Yn,Qc,Yo,Jn,Yp,Yq,Y6,Yr,Qd,Jo,Jp,Y7,Ys,Yt,Yu,Yv,Yw,Yx,Jq,Jr,Qr,Js,Yy,Qe,Qs,List.set_cons_zero,List.set_cons_succ,List.map_cons,List.map_nil,List.replicate,List.cons_append,List.nil_append,List.length_cons,List.length_nil,Bool.false_eq_true,eq_self,if_true,if_false,Nat.zero_add,Jt,Yz,Ju,Jv,Jw,Y0,Jx,true_and,Bool.not_true]; exact ⟨rfl, hR e⟩
theorem ints_gbs {n : Nat} {is : List Nat} {f : Nat → Dv} (h : ∀ i ∈ is, gb n (f i) = true) : gbs n (is.map f) = true := gbs_all fun d hd => by
  obtain ⟨i, hi, rfl⟩ := List.mem_map.mp hd
  exact h i hi
theorem ris23b_spec {b : Fn Ct} (hb : b = bRis23b) {ys : List Str} (hl : ys.length ≤ 160000) {v0 v2 : Option Dv} {s : Sto} {R : Ct → Sto → Prop} (hR : R (.ret (.bl (risS ys))) s) :
    OkE nX (b [v0, some (.tup (ys.map .str)), v2, none] s) R := by
  subst hb
  unfold bRis23b
  simp only [Y1,Qf,Qt,Qu,Qa,Qg,Qv,Qw,Qx,Qy,Qh,Qz,Jy,Qi,Qb,Qj,Qk,Q0,Jz,Q1,Q2,J0,Q3,Q4,J1,Ql,Qm,Qn,Q5,Qo,Q6,Qp,Q7,Q8,J2,Q9,Ja,J3,J4,J5,Jb,J6,J7,Jc,J8,J9,Jd,Je,Ya,Jf,Yb,Jg,Jh,Y8,Yc,Ji,Yd,Ye,Yf,Yg,Yh,Y2,Jj,Qq,Jk,Yi,Jl,Jm,Yj,Y3,Yk,Yl,Y4,Ym,Y5,Yn,Qc,Yo,Jn,Yp,Yq,Y6,Yr,Qd,Jo,Jp,Y7,Ys,Yt,Yu,Yv,Yw,Yx,Jq,Jr,Qr,Js,Yy,Qe,Qs,List.set_cons_zero,List.set_cons_succ,List.map_cons,List.map_nil,List.replicate,List.cons_append,List.nil_append,List.length_cons,List.length_nil,Bool.false_eq_true,eq_self,if_true,if_false,Nat.zero_add,Jt,Yz,Ju,Jv,Jw,Y0,Jx,true_and,len_tup,List.length_map]
  refine ⟨?_, ?_⟩
  · rw [Bool.and_eq_true]
    exact ⟨inRng_small (by decide) (by decide), inRng_small (by omega) (by omega)⟩
  refine ⟨decide_eq_true (by rw [rngD_len]; omega), ?_⟩
  have hn : ((ys.length : Int) - 1).toNat = ys.length - 1 := by omega
  rw [hn]
  unfold rngD
  refine ok_pick (xs := List.range (ys.length - 1)) (enc := fun (i : Nat) => Dv.int (1 + (i : Int))) (p := fun i => !ltAt ys i) (f := fun (i : Nat) => Dv.int (1 + (i : Int))) (fun i hi => ?_) ?_
  · obtain ⟨a, b, _, _, el, ea, eb⟩ := at_pair (List.mem_range.mp hi)
    rw [el]
    have egt : ∀ s : Sto, gGe (.str a) (.str b) s = .ok (.bl (!strLt a b)) s := fun s => rfl
    simp only [Y1,Qf,Qt,Qu,Qa,Qg,Qv,Qw,Qx,Qy,Qh,Qz,Jy,Qi,Qb,Qj,Qk,Q0,Jz,Q1,Q2,J0,Q3,Q4,J1,Ql,Qm,Qn,Q5,Qo,Q6,Qp,Q7,Q8,J2,Q9,Ja,J3,J4,J5,Jb,J6,J7,Jc,J8,J9,Jd,Je,Ya,Jf,Yb,Jg,Jh,Y8,Yc,Ji,Yd,Ye,Yf,Yg,Yh,Y2,Jj,Qq,Jk,Yi,Jl,Jm,Yj,Y3,Yk,Yl,Y4,Ym,Y5,Yn,Qc,Yo,Jn,Yp,Yq,Y6,Yr,Qd,Jo,Jp,Y7,Ys,Yt,Yu,Yv,Yw,Yx,Jq,Jr,Qr,Js,Yy,Qe,Qs,List.set_cons_zero,List.set_cons_succ,List.map_cons,List.map_nil,List.replicate,List.cons_append,List.nil_append,List.length_cons,List.length_nil,Bool.false_eq_true,eq_self,if_true,if_false,Nat.zero_add,Jt,Yz,Ju,Jv,Jw,Y0,Jx,true_and,wipeZ,sub_int,ea,eb,egt]
    all_goals first | trivial | exact ⟨rfl, fun _ => trivial⟩ | exact fun _ => trivial | exact ⟨rfl, rfl, fun _ => trivial⟩ | exact ⟨rfl, fun _ => rfl⟩
  have hf : gbs 1 (((List.range (ys.length - 1)).filter fun i => !ltAt ys i).map fun (i : Nat) => Dv.int (1 + (i : Int))) = true := ints_gbs fun i hi => by
    have := List.mem_range.mp (List.mem_filter.mp hi).1
    simp only [gb, decide_eq_true_eq]
    have : (1 + (i : Int)).natAbs ≤ 160001 := by omega
    exact Nat.lt_of_le_of_lt this (by decide +kernel)
  simp only [Y1,Qf,Qt,Qu,Qa,Qg,Qv,Qw,Qx,Qy,Qh,Qz,Jy,Qi,Qb,Qj,Qk,Q0,Jz,Q1,Q2,J0,Q3,Q4,J1,Ql,Qm,Qn,Q5,Qo,Q6,Qp,Q7,Q8,J2,Q9,Ja,J3,J4,J5,Jb,J6,J7,Jc,J8,J9,Jd,Je,Ya,Jf,Yb,Jg,Jh,Y8,Yc,Ji,Yd,Ye,Yf,Yg,Yh,Y2,Jj,Qq,Jk,Yi,Jl,Jm,Yj,Y3,Yk,Yl,Y4,Ym,Y5,Yn,Qc,Yo,Jn,Yp,Yq,Y6,Yr,Qd,Jo,Jp,Y7,Ys,Yt,Yu,Yv,Yw,Yx,Jq,Jr,Qr,Js,Yy,Qe,Qs,List.set_cons_zero,List.set_cons_succ,List.map_cons,List.map_nil,List.replicate,List.cons_append,List.nil_append,List.length_cons,List.length_nil,Bool.false_eq_true,eq_self,if_true,if_false,Nat.zero_add,Jt,Yz,Ju,Jv,Jw,Y0,Jx,true_and,eqL_nil hf (by decide),List.isEmpty_map,filt_all (p := fun i => !ltAt ys i) (q := ltAt ys) (fun _ => rfl)]
  exact ⟨rfl, hR⟩
theorem ris23_spec {φw : Phi} {ba bb : Fn Ct} (hba : ba = bRis23a φw) (hbb : bb = bRis23b) (hw : ThS φw isWordD) : NamS (fDef 2 4 (bRis23 ba bb)) := by
  intro zs d s T h hT
  rw [ok_def]
  refine ⟨rfl, ?_⟩
  unfold bRis23
  simp only [Y1,Qf,Qt,Qu,Qa,Qg,Qv,Qw,Qx,Qy,Qh,Qz,Jy,Qi,Qb,Qj,Qk,Q0,Jz,Q1,Q2,J0,Q3,Q4,J1,Ql,Qm,Qn,Q5,Qo,Q6,Qp,Q7,Q8,J2,Q9,Ja,J3,J4,J5,Jb,J6,J7,Jc,J8,J9,Jd,Je,Ya,Jf,Yb,Jg,Jh,Y8,Yc,Ji,Yd,Ye,Yf,Yg,Yh,Y2,Jj,Qq,Jk,Yi,Jl,Jm,Yj,Y3,Yk,Yl,Y4,Ym,Y5,Yn,Qc,Yo,Jn,Yp,Yq,Y6,Yr,Qd,Jo,Jp,Y7,Ys,Yt,Yu,Yv,Yw,Yx,Jq,Jr,Qr,Js,Yy,Qe,Qs,List.set_cons_zero,List.set_cons_succ,List.map_cons,List.map_nil,List.replicate,List.cons_append,List.nil_append,List.length_cons,List.length_nil,Bool.false_eq_true,eq_self,if_true,if_false,Nat.zero_add,Jt,Yz,Ju,Jv,Jw,Y0,Jx,true_and,ok_isi,kIsi_ap]
  refine ⟨h.okX, ?_⟩
  rw [ty_tup h.g]
  cases e : isTupD d with
  | false =>
    rw [names_no (words_notT e).1] at hT
    simp only [Y1,Qf,Qt,Qu,Qa,Qg,Qv,Qw,Qx,Qy,Qh,Qz,Jy,Qi,Qb,Qj,Qk,Q0,Jz,Q1,Q2,J0,Q3,Q4,J1,Ql,Qm,Qn,Q5,Qo,Q6,Qp,Q7,Q8,J2,Q9,Ja,J3,J4,J5,Jb,J6,J7,Jc,J8,J9,Jd,Je,Ya,Jf,Yb,Jg,Jh,Y8,Yc,Ji,Yd,Ye,Yf,Yg,Yh,Y2,Jj,Qq,Jk,Yi,Jl,Jm,Yj,Y3,Yk,Yl,Y4,Ym,Y5,Yn,Qc,Yo,Jn,Yp,Yq,Y6,Yr,Qd,Jo,Jp,Y7,Ys,Yt,Yu,Yv,Yw,Yx,Jq,Jr,Qr,Js,Yy,Qe,Qs,List.set_cons_zero,List.set_cons_succ,List.map_cons,List.map_nil,List.replicate,List.cons_append,List.nil_append,List.length_cons,List.length_nil,Bool.false_eq_true,eq_self,if_true,if_false,Nat.zero_add,Jt,Yz,Ju,Jv,Jw,Y0,Jx,true_and,Bool.not_false]
    exact fin_any (fun n => nofun) hT
  | true =>
    obtain ⟨ds, rfl⟩ := isTup_of e
    obtain ⟨g, gw, gl⟩ := h.tup
    simp only [Y1,Qf,Qt,Qu,Qa,Qg,Qv,Qw,Qx,Qy,Qh,Qz,Jy,Qi,Qb,Qj,Qk,Q0,Jz,Q1,Q2,J0,Q3,Q4,J1,Ql,Qm,Qn,Q5,Qo,Q6,Qp,Q7,Q8,J2,Q9,Ja,J3,J4,J5,Jb,J6,J7,Jc,J8,J9,Jd,Je,Ya,Jf,Yb,Jg,Jh,Y8,Yc,Ji,Yd,Ye,Yf,Yg,Yh,Y2,Jj,Qq,Jk,Yi,Jl,Jm,Yj,Y3,Yk,Yl,Y4,Ym,Y5,Yn,Qc,Yo,Jn,Yp,Yq,Y6,Yr,Qd,Jo,Jp,Y7,Ys,Yt,Yu,Yv,Yw,Yx,Jq,Jr,Qr,Js,Yy,Qe,Qs,List.set_cons_zero,List.set_cons_succ,List.map_cons,List.map_nil,List.replicate,List.cons_append,List.nil_append,List.length_cons,List.length_nil,Bool.false_eq_true,eq_self,if_true,if_false,Nat.zero_add,Jt,Yz,Ju,Jv,Jw,Y0,Jx,true_and,Bool.not_true]
    refine ris23a_spec hba hw h (fun e2 => ?_) fun e2 => ?_
    · have hw : ds.all isWordD = true := List.all_eq_true.mpr fun d hd => (Bool.and_eq_true _ _ ▸ List.all_eq_true.mp e2 d hd : isWordD d = true ∧ inZ zs d = true).1
      obtain ⟨ys, rfl⟩ := words_dec hw
      rw [names_yes hw] at hT
      have hz : ys.all (fun y => decide (y ∈ zs)) = true := List.all_eq_true.mpr fun y hy => by
        have := List.all_eq_true.mp e2 (.str y) (List.mem_map.mpr ⟨y, hy, rfl⟩)
        rw [Bool.and_eq_true] at this
        exact this.2
      rw [hz] at hT
      rw [List.length_map] at gl
      simp only [Y1,Qf,Qt,Qu,Qa,Qg,Qv,Qw,Qx,Qy,Qh,Qz,Jy,Qi,Qb,Qj,Qk,Q0,Jz,Q1,Q2,J0,Q3,Q4,J1,Ql,Qm,Qn,Q5,Qo,Q6,Qp,Q7,Q8,J2,Q9,Ja,J3,J4,J5,Jb,J6,J7,Jc,J8,J9,Jd,Je,Ya,Jf,Yb,Jg,Jh,Y8,Yc,Ji,Yd,Ye,Yf,Yg,Yh,Y2,Jj,Qq,Jk,Yi,Jl,Jm,Yj,Y3,Yk,Yl,Y4,Ym,Y5,Yn,Qc,Yo,Jn,Yp,Yq,Y6,Yr,Qd,Jo,Jp,Y7,Ys,Yt,Yu,Yv,Yw,Yx,Jq,Jr,Qr,Js,Yy,Qe,Qs,List.set_cons_zero,List.set_cons_succ,List.map_cons,List.map_nil,List.replicate,List.cons_append,List.nil_append,List.length_cons,List.length_nil,Bool.false_eq_true,eq_self,if_true,if_false,Nat.zero_add,Jt,Yz,Ju,Jv,Jw,Y0,Jx,true_and]
      refine ris23b_spec hbb gl ?_
      simp only [Y1,Qf,Qt,Qu,Qa,Qg,Qv,Qw,Qx,Qy,Qh,Qz,Jy,Qi,Qb,Qj,Qk,Q0,Jz,Q1,Q2,J0,Q3,Q4,J1,Ql,Qm,Qn,Q5,Qo,Q6,Qp,Q7,Q8,J2,Q9,Ja,J3,J4,J5,Jb,J6,J7,Jc,J8,J9,Jd,Je,Ya,Jf,Yb,Jg,Jh,Y8,Yc,Ji,Yd,Ye,Yf,Yg,Yh,Y2,Jj,Qq,Jk,Yi,Jl,Jm,Yj,Y3,Yk,Yl,Y4,Ym,Y5,Yn,Qc,Yo,Jn,Yp,Yq,Y6,Yr,Qd,Jo,Jp,Y7,Ys,Yt,Yu,Yv,Yw,Yx,Jq,Jr,Qr,Js,Yy,Qe,Qs,List.set_cons_zero,List.set_cons_succ,List.map_cons,List.map_nil,List.replicate,List.cons_append,List.nil_append,List.length_cons,List.length_nil,Bool.false_eq_true,eq_self,if_true,if_false,Nat.zero_add,Jt,Yz,Ju,Jv,Jw,Y0,Jx,true_and]
      exact fin_any (fun n => nofun) hT
    · have hn : namesD zs (.tup ds) = false := by
        cases hw : ds.all isWordD with
        | false => exact names_no hw
        | true =>
          obtain ⟨ys, rfl⟩ := words_dec hw
          rw [names_yes hw]
          have hz : ys.all (fun y => decide (y ∈ zs)) = false := by
            cases hz : ys.all (fun y => decide (y ∈ zs)) with
            | false => rfl
            | true =>
              have : (ys.map Dv.str).all (fun d => isWordD d && inZ zs d) = true := List.all_eq_true.mpr fun d hd => by
                obtain ⟨y, hy, rfl⟩ := List.mem_map.mp hd
                rw [Bool.and_eq_true]
                exact ⟨List.all_eq_true.mp hw _ hd, List.all_eq_true.mp hz y hy⟩
              rw [this] at e2
              cases e2
          rw [hz]; rfl
      rw [hn] at hT
      simp only [Y1,Qf,Qt,Qu,Qa,Qg,Qv,Qw,Qx,Qy,Qh,Qz,Jy,Qi,Qb,Qj,Qk,Q0,Jz,Q1,Q2,J0,Q3,Q4,J1,Ql,Qm,Qn,Q5,Qo,Q6,Qp,Q7,Q8,J2,Q9,Ja,J3,J4,J5,Jb,J6,J7,Jc,J8,J9,Jd,Je,Ya,Jf,Yb,Jg,Jh,Y8,Yc,Ji,Yd,Ye,Yf,Yg,Yh,Y2,Jj,Qq,Jk,Yi,Jl,Jm,Yj,Y3,Yk,Yl,Y4,Ym,Y5,Yn,Qc,Yo,Jn,Yp,Yq,Y6,Yr,Qd,Jo,Jp,Y7,Ys,Yt,Yu,Yv,Yw,Yx,Jq,Jr,Qr,Js,Yy,Qe,Qs,List.set_cons_zero,List.set_cons_succ,List.map_cons,List.map_nil,List.replicate,List.cons_append,List.nil_append,List.length_cons,List.length_nil,Bool.false_eq_true,eq_self,if_true,if_false,Nat.zero_add,Jt,Yz,Ju,Jv,Jw,Y0,Jx,true_and]
      exact fin_any (fun n => nofun) hT
/-! ### .. a pile -/
def bPile24 (φw φn φr : Phi) : Fn Ct :=
  fSeq (fIfS (fOrT (fNotT (fTest (fIsi "tuple" (fVar 1)))) (fTest (fBin gNe (fCall gLen (fCons (fVar 1) (fNil))) (fC (.int 4))))) (fRet (fC (.bl false))) (fNop))
  (fSeq (fIfS (fOrT (fNotT (fTest (fCall φw (fCons (fBin gIx (fVar 1) (fC (.int 0))) (fNil))))) (fTest (fBin gNotIn (fBin gIx (fVar 1) (fC (.int 0))) (fVar 0)))) (fRet (fC (.bl false))) (fNop))
  (fSeq (fIfS (fTest (fBin gNe (fVal (fLc (fSrc (fSl (fVar 1) (fPart (fC (.int 1))) (fPart (fC (.int 3))))) [2] (gNm 2) (fOrT (fNotT (fTest (fCall φn (fCons (fVar 2) (fNil))))) (fTest (fBin gLt (fVar 2) (fC (.int 0))))) (fVar 2))) (fVal (fLst (fNil))))) (fRet (fC (.bl false))) (fNop))
  (fRet (fAnd (fCall φr (fCons (fVar 0) (fCons (fBin gIx (fVar 1) (fC (.int 3))) (fNil)))) (fBin gNotIn (fBin gIx (fVar 1) (fC (.int 0))) (fBin gIx (fVar 1) (fC (.int 3))))))))
theorem pile24_spec {φw φn φr : Phi} (hw : ThS φw isWordD) (hn : ThS φn isNumD) (hr : NamS φr) : PilS (fDef 2 3 (bPile24 φw φn φr)) := by
  intro zs d s T h hT
  rw [ok_def]
  refine ⟨rfl, ?_⟩
  unfold bPile24
  simp only [Y1,Qf,Qt,Qu,Qa,Qg,Qv,Qw,Qx,Qy,Qh,Qz,Jy,Qi,Qb,Qj,Qk,Q0,Jz,Q1,Q2,J0,Q3,Q4,J1,Ql,Qm,Qn,Q5,Qo,Q6,Qp,Q7,Q8,J2,Q9,Ja,J3,J4,J5,Jb,J6,J7,Jc,J8,J9,Jd,Je,Ya,Jf,Yb,Jg,Jh,Y8,Yc,Ji,Yd,Ye,Yf,Yg,Yh,Y2,Jj,Qq,Jk,Yi,Jl,Jm,Yj,Y3,Yk,Yl,Y4,Ym,Y5,Yn,Qc,Yo,Jn,Yp,Yq,Y6,Yr,Qd,Jo,Jp,Y7,Ys,Yt,Yu,Yv,Yw,Yx,Jq,Jr,Qr,Js,Yy,Qe,Qs,List.set_cons_zero,List.set_cons_succ,List.map_cons,List.map_nil,List.replicate,List.cons_append,List.nil_append,List.length_cons,List.length_nil,Bool.false_eq_true,eq_self,if_true,if_false,Nat.zero_add,Jt,Yz,Ju,Jv,Jw,Y0,Jx,true_and,ok_isi,kIsi_ap]
  refine ⟨h.okX, ?_⟩
  rw [ty_tup h.g]
  cases e : isTupD d with
  | false =>
    rw [pile_notT e] at hT
    simp only [Y1,Qf,Qt,Qu,Qa,Qg,Qv,Qw,Qx,Qy,Qh,Qz,Jy,Qi,Qb,Qj,Qk,Q0,Jz,Q1,Q2,J0,Q3,Q4,J1,Ql,Qm,Qn,Q5,Qo,Q6,Qp,Q7,Q8,J2,Q9,Ja,J3,J4,J5,Jb,J6,J7,Jc,J8,J9,Jd,Je,Ya,Jf,Yb,Jg,Jh,Y8,Yc,Ji,Yd,Ye,Yf,Yg,Yh,Y2,Jj,Qq,Jk,Yi,Jl,Jm,Yj,Y3,Yk,Yl,Y4,Ym,Y5,Yn,Qc,Yo,Jn,Yp,Yq,Y6,Yr,Qd,Jo,Jp,Y7,Ys,Yt,Yu,Yv,Yw,Yx,Jq,Jr,Qr,Js,Yy,Qe,Qs,List.set_cons_zero,List.set_cons_succ,List.map_cons,List.map_nil,List.replicate,List.cons_append,List.nil_append,List.length_cons,List.length_nil,Bool.false_eq_true,eq_self,if_true,if_false,Nat.zero_add,Jt,Yz,Ju,Jv,Jw,Y0,Jx,true_and,Bool.not_false]
    exact fin_any (fun n => nofun) hT
  | true =>
    obtain ⟨ds, rfl⟩ := isTup_of e
    obtain ⟨g, gw, gl⟩ := h.tup
    simp only [Y1,Qf,Qt,Qu,Qa,Qg,Qv,Qw,Qx,Qy,Qh,Qz,Jy,Qi,Qb,Qj,Qk,Q0,Jz,Q1,Q2,J0,Q3,Q4,J1,Ql,Qm,Qn,Q5,Qo,Q6,Qp,Q7,Q8,J2,Q9,Ja,J3,J4,J5,Jb,J6,J7,Jc,J8,J9,Jd,Je,Ya,Jf,Yb,Jg,Jh,Y8,Yc,Ji,Yd,Ye,Yf,Yg,Yh,Y2,Jj,Qq,Jk,Yi,Jl,Jm,Yj,Y3,Yk,Yl,Y4,Ym,Y5,Yn,Qc,Yo,Jn,Yp,Yq,Y6,Yr,Qd,Jo,Jp,Y7,Ys,Yt,Yu,Yv,Yw,Yx,Jq,Jr,Qr,Js,Yy,Qe,Qs,List.set_cons_zero,List.set_cons_succ,List.map_cons,List.map_nil,List.replicate,List.cons_append,List.nil_append,List.length_cons,List.length_nil,Bool.false_eq_true,eq_self,if_true,if_false,Nat.zero_add,Jt,Yz,Ju,Jv,Jw,Y0,Jx,true_and,Bool.not_true,len_tup,ne_int]
    by_cases h4 : ds.length = 4
    · obtain ⟨a, b, c, f, rfl⟩ := four_of h4
      rw [show (!(((([a, b, c, f] : List Dv).length : Nat) : Int) == 4)) = false from rfl]
      have ta : Thg a := .of g gw (by simp)
      have tf : Thg f := .of g gw (by simp)
      have e1 : ∀ s : Sto, gSl (.tup [a, b, c, f]) (some 1) (some 3) s = .ok (.tup [b, c]) s := fun s => rfl
      have i0 : ∀ s : Sto, gIx (.tup [a, b, c, f]) (.int 0) s = .ok a s := fun s => rfl
      have i3 : ∀ s : Sto, gIx (.tup [a, b, c, f]) (.int 3) s = .ok f s := fun s => rfl
      simp only [Y1,Qf,Qt,Qu,Qa,Qg,Qv,Qw,Qx,Qy,Qh,Qz,Jy,Qi,Qb,Qj,Qk,Q0,Jz,Q1,Q2,J0,Q3,Q4,J1,Ql,Qm,Qn,Q5,Qo,Q6,Qp,Q7,Q8,J2,Q9,Ja,J3,J4,J5,Jb,J6,J7,Jc,J8,J9,Jd,Je,Ya,Jf,Yb,Jg,Jh,Y8,Yc,Ji,Yd,Ye,Yf,Yg,Yh,Y2,Jj,Qq,Jk,Yi,Jl,Jm,Yj,Y3,Yk,Yl,Y4,Ym,Y5,Yn,Qc,Yo,Jn,Yp,Yq,Y6,Yr,Qd,Jo,Jp,Y7,Ys,Yt,Yu,Yv,Yw,Yx,Jq,Jr,Qr,Js,Yy,Qe,Qs,List.set_cons_zero,List.set_cons_succ,List.map_cons,List.map_nil,List.replicate,List.cons_append,List.nil_append,List.length_cons,List.length_nil,Bool.false_eq_true,eq_self,if_true,if_false,Nat.zero_add,Jt,Yz,Ju,Jv,Jw,Y0,Jx,true_and,i0]
      refine hw _ s _ ta ?_
      have hT : T (.bl ((isWordD a && inZ zs a) && (isFromD b && (isFromD c && (namesD zs f && offD a f))))) s := hT
      cases ew : isWordD a with
      | false =>
        rw [ew] at hT
        simp only [Y1,Qf,Qt,Qu,Qa,Qg,Qv,Qw,Qx,Qy,Qh,Qz,Jy,Qi,Qb,Qj,Qk,Q0,Jz,Q1,Q2,J0,Q3,Q4,J1,Ql,Qm,Qn,Q5,Qo,Q6,Qp,Q7,Q8,J2,Q9,Ja,J3,J4,J5,Jb,J6,J7,Jc,J8,J9,Jd,Je,Ya,Jf,Yb,Jg,Jh,Y8,Yc,Ji,Yd,Ye,Yf,Yg,Yh,Y2,Jj,Qq,Jk,Yi,Jl,Jm,Yj,Y3,Yk,Yl,Y4,Ym,Y5,Yn,Qc,Yo,Jn,Yp,Yq,Y6,Yr,Qd,Jo,Jp,Y7,Ys,Yt,Yu,Yv,Yw,Yx,Jq,Jr,Qr,Js,Yy,Qe,Qs,List.set_cons_zero,List.set_cons_succ,List.map_cons,List.map_nil,List.replicate,List.cons_append,List.nil_append,List.length_cons,List.length_nil,Bool.false_eq_true,eq_self,if_true,if_false,Nat.zero_add,Jt,Yz,Ju,Jv,Jw,Y0,Jx,true_and,Bool.not_false]
        exact fin_any (fun n => nofun) hT
      | true =>
        obtain ⟨z, rfl⟩ := word_is ew
        rw [ew] at hT
        have hT : T (.bl ((true && decide (z ∈ zs)) && (isFromD b && (isFromD c && (namesD zs f && offD (.str z) f))))) s := hT
        simp only [Y1,Qf,Qt,Qu,Qa,Qg,Qv,Qw,Qx,Qy,Qh,Qz,Jy,Qi,Qb,Qj,Qk,Q0,Jz,Q1,Q2,J0,Q3,Q4,J1,Ql,Qm,Qn,Q5,Qo,Q6,Qp,Q7,Q8,J2,Q9,Ja,J3,J4,J5,Jb,J6,J7,Jc,J8,J9,Jd,Je,Ya,Jf,Yb,Jg,Jh,Y8,Yc,Ji,Yd,Ye,Yf,Yg,Yh,Y2,Jj,Qq,Jk,Yi,Jl,Jm,Yj,Y3,Yk,Yl,Y4,Ym,Y5,Yn,Qc,Yo,Jn,Yp,Yq,Y6,Yr,Qd,Jo,Jp,Y7,Ys,Yt,Yu,Yv,Yw,Yx,Jq,Jr,Qr,Js,Yy,Qe,Qs,List.set_cons_zero,List.set_cons_succ,List.map_cons,List.map_nil,List.replicate,List.cons_append,List.nil_append,List.length_cons,List.length_nil,Bool.false_eq_true,eq_self,if_true,if_false,Nat.zero_add,Jt,Yz,Ju,Jv,Jw,Y0,Jx,true_and,Bool.not_true,i0,notin_strs]
        by_cases hz : z ∈ zs
        · rw [decide_eq_true hz] at hT ⊢
          simp only [Y1,Qf,Qt,Qu,Qa,Qg,Qv,Qw,Qx,Qy,Qh,Qz,Jy,Qi,Qb,Qj,Qk,Q0,Jz,Q1,Q2,J0,Q3,Q4,J1,Ql,Qm,Qn,Q5,Qo,Q6,Qp,Q7,Q8,J2,Q9,Ja,J3,J4,J5,Jb,J6,J7,Jc,J8,J9,Jd,Je,Ya,Jf,Yb,Jg,Jh,Y8,Yc,Ji,Yd,Ye,Yf,Yg,Yh,Y2,Jj,Qq,Jk,Yi,Jl,Jm,Yj,Y3,Yk,Yl,Y4,Ym,Y5,Yn,Qc,Yo,Jn,Yp,Yq,Y6,Yr,Qd,Jo,Jp,Y7,Ys,Yt,Yu,Yv,Yw,Yx,Jq,Jr,Qr,Js,Yy,Qe,Qs,List.set_cons_zero,List.set_cons_succ,List.map_cons,List.map_nil,List.replicate,List.cons_append,List.nil_append,List.length_cons,List.length_nil,Bool.false_eq_true,eq_self,if_true,if_false,Nat.zero_add,Jt,Yz,Ju,Jv,Jw,Y0,Jx,true_and,Bool.not_true,e1]
          refine ⟨rfl, ?_⟩
          refine ok_map (fun d => !isFromD d) (fun d => d) (fun d hd => ?_) ?_
          · have td : Thg d := by
              have : d = b ∨ d = c := by simpa using hd
              rcases this with rfl | rfl <;> exact .of g gw (by simp)
            simp only [Y1,Qf,Qt,Qu,Qa,Qg,Qv,Qw,Qx,Qy,Qh,Qz,Jy,Qi,Qb,Qj,Qk,Q0,Jz,Q1,Q2,J0,Q3,Q4,J1,Ql,Qm,Qn,Q5,Qo,Q6,Qp,Q7,Q8,J2,Q9,Ja,J3,J4,J5,Jb,J6,J7,Jc,J8,J9,Jd,Je,Ya,Jf,Yb,Jg,Jh,Y8,Yc,Ji,Yd,Ye,Yf,Yg,Yh,Y2,Jj,Qq,Jk,Yi,Jl,Jm,Yj,Y3,Yk,Yl,Y4,Ym,Y5,Yn,Qc,Yo,Jn,Yp,Yq,Y6,Yr,Qd,Jo,Jp,Y7,Ys,Yt,Yu,Yv,Yw,Yx,Jq,Jr,Qr,Js,Yy,Qe,Qs,List.set_cons_zero,List.set_cons_succ,List.map_cons,List.map_nil,List.replicate,List.cons_append,List.nil_append,List.length_cons,List.length_nil,Bool.false_eq_true,eq_self,if_true,if_false,Nat.zero_add,Jt,Yz,Ju,Jv,Jw,Y0,Jx,true_and,wipeZ]
            refine hn d s _ td ?_
            cases d with
            | int i =>
              simp only [Y1,Qf,Qt,Qu,Qa,Qg,Qv,Qw,Qx,Qy,Qh,Qz,Jy,Qi,Qb,Qj,Qk,Q0,Jz,Q1,Q2,J0,Q3,Q4,J1,Ql,Qm,Qn,Q5,Qo,Q6,Qp,Q7,Q8,J2,Q9,Ja,J3,J4,J5,Jb,J6,J7,Jc,J8,J9,Jd,Je,Ya,Jf,Yb,Jg,Jh,Y8,Yc,Ji,Yd,Ye,Yf,Yg,Yh,Y2,Jj,Qq,Jk,Yi,Jl,Jm,Yj,Y3,Yk,Yl,Y4,Ym,Y5,Yn,Qc,Yo,Jn,Yp,Yq,Y6,Yr,Qd,Jo,Jp,Y7,Ys,Yt,Yu,Yv,Yw,Yx,Jq,Jr,Qr,Js,Yy,Qe,Qs,List.set_cons_zero,List.set_cons_succ,List.map_cons,List.map_nil,List.replicate,List.cons_append,List.nil_append,List.length_cons,List.length_nil,Bool.false_eq_true,eq_self,if_true,if_false,Nat.zero_add,Jt,Yz,Ju,Jv,Jw,Y0,Jx,true_and,show isNumD (.int i) = true from rfl,Bool.not_true,lt_int]
              have : decide (i < 0) = !isFromD (.int i) := by
                show decide (i < 0) = !decide (0 ≤ i)
                by_cases h : i < 0
                · rw [decide_eq_true h, decide_eq_false (by omega)]; rfl
                · rw [decide_eq_false h, decide_eq_true (by omega)]; rfl
              exact ⟨this, by split <;> trivial⟩
            | _ =>
              simp only [Y1,Qf,Qt,Qu,Qa,Qg,Qv,Qw,Qx,Qy,Qh,Qz,Jy,Qi,Qb,Qj,Qk,Q0,Jz,Q1,Q2,J0,Q3,Q4,J1,Ql,Qm,Qn,Q5,Qo,Q6,Qp,Q7,Q8,J2,Q9,Ja,J3,J4,J5,Jb,J6,J7,Jc,J8,J9,Jd,Je,Ya,Jf,Yb,Jg,Jh,Y8,Yc,Ji,Yd,Ye,Yf,Yg,Yh,Y2,Jj,Qq,Jk,Yi,Jl,Jm,Yj,Y3,Yk,Yl,Y4,Ym,Y5,Yn,Qc,Yo,Jn,Yp,Yq,Y6,Yr,Qd,Jo,Jp,Y7,Ys,Yt,Yu,Yv,Yw,Yx,Jq,Jr,Qr,Js,Yy,Qe,Qs,List.set_cons_zero,List.set_cons_succ,List.map_cons,List.map_nil,List.replicate,List.cons_append,List.nil_append,List.length_cons,List.length_nil,Bool.false_eq_true,eq_self,if_true,if_false,Nat.zero_add,Jt,Yz,Ju,Jv,Jw,Y0,Jx,true_and,isNumD,isFromD,Bool.not_false]
              all_goals first | trivial | exact ⟨rfl, rfl⟩ | exact ⟨rfl, trivial⟩
          have hf : gbs 29 ((([b, c].filter fun d => !isFromD d)).map fun d => d) = true := gbs_sub g fun d hd => by
            rw [List.map_id'] at hd
            have := (List.mem_filter.mp hd).1
            simp only [List.mem_cons, List.not_mem_nil, or_false] at this ⊢
            rcases this with h | h <;> simp [h]
          rw [List.map_id'] at hf ⊢
          simp only [Y1,Qf,Qt,Qu,Qa,Qg,Qv,Qw,Qx,Qy,Qh,Qz,Jy,Qi,Qb,Qj,Qk,Q0,Jz,Q1,Q2,J0,Q3,Q4,J1,Ql,Qm,Qn,Q5,Qo,Q6,Qp,Q7,Q8,J2,Q9,Ja,J3,J4,J5,Jb,J6,J7,Jc,J8,J9,Jd,Je,Ya,Jf,Yb,Jg,Jh,Y8,Yc,Ji,Yd,Ye,Yf,Yg,Yh,Y2,Jj,Qq,Jk,Yi,Jl,Jm,Yj,Y3,Yk,Yl,Y4,Ym,Y5,Yn,Qc,Yo,Jn,Yp,Yq,Y6,Yr,Qd,Jo,Jp,Y7,Ys,Yt,Yu,Yv,Yw,Yx,Jq,Jr,Qr,Js,Yy,Qe,Qs,List.set_cons_zero,List.set_cons_succ,List.map_cons,List.map_nil,List.replicate,List.cons_append,List.nil_append,List.length_cons,List.length_nil,Bool.false_eq_true,eq_self,if_true,if_false,Nat.zero_add,Jt,Yz,Ju,Jv,Jw,Y0,Jx,true_and,neL_nil hf (by decide),filt_all (p := fun d => !isFromD d) (q := isFromD) (fun _ => rfl)]
          rw [show ([b, c] : List Dv).all isFromD = (isFromD b && isFromD c) by simp]
          cases eb : isFromD b with
          | false =>
            rw [eb] at hT
            simp only [Y1,Qf,Qt,Qu,Qa,Qg,Qv,Qw,Qx,Qy,Qh,Qz,Jy,Qi,Qb,Qj,Qk,Q0,Jz,Q1,Q2,J0,Q3,Q4,J1,Ql,Qm,Qn,Q5,Qo,Q6,Qp,Q7,Q8,J2,Q9,Ja,J3,J4,J5,Jb,J6,J7,Jc,J8,J9,Jd,Je,Ya,Jf,Yb,Jg,Jh,Y8,Yc,Ji,Yd,Ye,Yf,Yg,Yh,Y2,Jj,Qq,Jk,Yi,Jl,Jm,Yj,Y3,Yk,Yl,Y4,Ym,Y5,Yn,Qc,Yo,Jn,Yp,Yq,Y6,Yr,Qd,Jo,Jp,Y7,Ys,Yt,Yu,Yv,Yw,Yx,Jq,Jr,Qr,Js,Yy,Qe,Qs,List.set_cons_zero,List.set_cons_succ,List.map_cons,List.map_nil,List.replicate,List.cons_append,List.nil_append,List.length_cons,List.length_nil,Bool.false_eq_true,eq_self,if_true,if_false,Nat.zero_add,Jt,Yz,Ju,Jv,Jw,Y0,Jx,true_and,Bool.false_and,Bool.not_false]
            refine ⟨rfl, ?_⟩
            exact fin_any (fun n => nofun) hT
          | true =>
            rw [eb] at hT
            cases ec : isFromD c with
            | false =>
              rw [ec] at hT
              simp only [Y1,Qf,Qt,Qu,Qa,Qg,Qv,Qw,Qx,Qy,Qh,Qz,Jy,Qi,Qb,Qj,Qk,Q0,Jz,Q1,Q2,J0,Q3,Q4,J1,Ql,Qm,Qn,Q5,Qo,Q6,Qp,Q7,Q8,J2,Q9,Ja,J3,J4,J5,Jb,J6,J7,Jc,J8,J9,Jd,Je,Ya,Jf,Yb,Jg,Jh,Y8,Yc,Ji,Yd,Ye,Yf,Yg,Yh,Y2,Jj,Qq,Jk,Yi,Jl,Jm,Yj,Y3,Yk,Yl,Y4,Ym,Y5,Yn,Qc,Yo,Jn,Yp,Yq,Y6,Yr,Qd,Jo,Jp,Y7,Ys,Yt,Yu,Yv,Yw,Yx,Jq,Jr,Qr,Js,Yy,Qe,Qs,List.set_cons_zero,List.set_cons_succ,List.map_cons,List.map_nil,List.replicate,List.cons_append,List.nil_append,List.length_cons,List.length_nil,Bool.false_eq_true,eq_self,if_true,if_false,Nat.zero_add,Jt,Yz,Ju,Jv,Jw,Y0,Jx,true_and,Bool.true_and,Bool.not_false]
              refine ⟨rfl, ?_⟩
              exact fin_any (fun n => nofun) hT
            | true =>
              rw [ec] at hT
              simp only [Y1,Qf,Qt,Qu,Qa,Qg,Qv,Qw,Qx,Qy,Qh,Qz,Jy,Qi,Qb,Qj,Qk,Q0,Jz,Q1,Q2,J0,Q3,Q4,J1,Ql,Qm,Qn,Q5,Qo,Q6,Qp,Q7,Q8,J2,Q9,Ja,J3,J4,J5,Jb,J6,J7,Jc,J8,J9,Jd,Je,Ya,Jf,Yb,Jg,Jh,Y8,Yc,Ji,Yd,Ye,Yf,Yg,Yh,Y2,Jj,Qq,Jk,Yi,Jl,Jm,Yj,Y3,Yk,Yl,Y4,Ym,Y5,Yn,Qc,Yo,Jn,Yp,Yq,Y6,Yr,Qd,Jo,Jp,Y7,Ys,Yt,Yu,Yv,Yw,Yx,Jq,Jr,Qr,Js,Yy,Qe,Qs,List.set_cons_zero,List.set_cons_succ,List.map_cons,List.map_nil,List.replicate,List.cons_append,List.nil_append,List.length_cons,List.length_nil,Bool.false_eq_true,eq_self,if_true,if_false,Nat.zero_add,Jt,Yz,Ju,Jv,Jw,Y0,Jx,true_and,Bool.true_and,Bool.not_true,i3]
              refine ⟨rfl, ?_⟩
              refine hr zs f s _ tf ?_
              cases en : namesD zs f with
              | false =>
                rw [en] at hT
                simp only [Y1,Qf,Qt,Qu,Qa,Qg,Qv,Qw,Qx,Qy,Qh,Qz,Jy,Qi,Qb,Qj,Qk,Q0,Jz,Q1,Q2,J0,Q3,Q4,J1,Ql,Qm,Qn,Q5,Qo,Q6,Qp,Q7,Q8,J2,Q9,Ja,J3,J4,J5,Jb,J6,J7,Jc,J8,J9,Jd,Je,Ya,Jf,Yb,Jg,Jh,Y8,Yc,Ji,Yd,Ye,Yf,Yg,Yh,Y2,Jj,Qq,Jk,Yi,Jl,Jm,Yj,Y3,Yk,Yl,Y4,Ym,Y5,Yn,Qc,Yo,Jn,Yp,Yq,Y6,Yr,Qd,Jo,Jp,Y7,Ys,Yt,Yu,Yv,Yw,Yx,Jq,Jr,Qr,Js,Yy,Qe,Qs,List.set_cons_zero,List.set_cons_succ,List.map_cons,List.map_nil,List.replicate,List.cons_append,List.nil_append,List.length_cons,List.length_nil,Bool.false_eq_true,eq_self,if_true,if_false,Nat.zero_add,Jt,Yz,Ju,Jv,Jw,Y0,Jx,true_and]
                exact fin_any (fun n => nofun) hT
              | true =>
                rw [en] at hT
                obtain ⟨ys, rfl⟩ := names_tup en
                rw [offD_str] at hT
                have enot : ∀ s : Sto, gNotIn (.str z) (.tup (ys.map .str)) s = .ok (.bl (!decide (z ∈ ys))) s := fun s => notin_strs
                simp only [Y1,Qf,Qt,Qu,Qa,Qg,Qv,Qw,Qx,Qy,Qh,Qz,Jy,Qi,Qb,Qj,Qk,Q0,Jz,Q1,Q2,J0,Q3,Q4,J1,Ql,Qm,Qn,Q5,Qo,Q6,Qp,Q7,Q8,J2,Q9,Ja,J3,J4,J5,Jb,J6,J7,Jc,J8,J9,Jd,Je,Ya,Jf,Yb,Jg,Jh,Y8,Yc,Ji,Yd,Ye,Yf,Yg,Yh,Y2,Jj,Qq,Jk,Yi,Jl,Jm,Yj,Y3,Yk,Yl,Y4,Ym,Y5,Yn,Qc,Yo,Jn,Yp,Yq,Y6,Yr,Qd,Jo,Jp,Y7,Ys,Yt,Yu,Yv,Yw,Yx,Jq,Jr,Qr,Js,Yy,Qe,Qs,List.set_cons_zero,List.set_cons_succ,List.map_cons,List.map_nil,List.replicate,List.cons_append,List.nil_append,List.length_cons,List.length_nil,Bool.false_eq_true,eq_self,if_true,if_false,Nat.zero_add,Jt,Yz,Ju,Jv,Jw,Y0,Jx,true_and,i0,i3,enot]
                exact fin_any (fun n => nofun) hT
        · rw [decide_eq_false hz] at hT ⊢
          simp only [Y1,Qf,Qt,Qu,Qa,Qg,Qv,Qw,Qx,Qy,Qh,Qz,Jy,Qi,Qb,Qj,Qk,Q0,Jz,Q1,Q2,J0,Q3,Q4,J1,Ql,Qm,Qn,Q5,Qo,Q6,Qp,Q7,Q8,J2,Q9,Ja,J3,J4,J5,Jb,J6,J7,Jc,J8,J9,Jd,Je,Ya,Jf,Yb,Jg,Jh,Y8,Yc,Ji,Yd,Ye,Yf,Yg,Yh,Y2,Jj,Qq,Jk,Yi,Jl,Jm,Yj,Y3,Yk,Yl,Y4,Ym,Y5,Yn,Qc,Yo,Jn,Yp,Yq,Y6,Yr,Qd,Jo,Jp,Y7,Ys,Yt,Yu,Yv,Yw,Yx,Jq,Jr,Qr,Js,Yy,Qe,Qs,List.set_cons_zero,List.set_cons_succ,List.map_cons,List.map_nil,List.replicate,List.cons_append,List.nil_append,List.length_cons,List.length_nil,Bool.false_eq_true,eq_self,if_true,if_false,Nat.zero_add,Jt,Yz,Ju,Jv,Jw,Y0,Jx,true_and,Bool.not_false]
          exact fin_any (fun n => nofun) hT
    · rw [show (!((ds.length : Int) == 4)) = true by
        rw [Bool.not_eq_true', beq_eq_false_iff_ne]; omega]
      rw [pile_not4 h4] at hT
      simp only [Y1,Qf,Qt,Qu,Qa,Qg,Qv,Qw,Qx,Qy,Qh,Qz,Jy,Qi,Qb,Qj,Qk,Q0,Jz,Q1,Q2,J0,Q3,Q4,J1,Ql,Qm,Qn,Q5,Qo,Q6,Qp,Q7,Q8,J2,Q9,Ja,J3,J4,J5,Jb,J6,J7,Jc,J8,J9,Jd,Je,Ya,Jf,Yb,Jg,Jh,Y8,Yc,Ji,Yd,Ye,Yf,Yg,Yh,Y2,Jj,Qq,Jk,Yi,Jl,Jm,Yj,Y3,Yk,Yl,Y4,Ym,Y5,Yn,Qc,Yo,Jn,Yp,Yq,Y6,Yr,Qd,Jo,Jp,Y7,Ys,Yt,Yu,Yv,Yw,Yx,Jq,Jr,Qr,Js,Yy,Qe,Qs,List.set_cons_zero,List.set_cons_succ,List.map_cons,List.map_nil,List.replicate,List.cons_append,List.nil_append,List.length_cons,List.length_nil,Bool.false_eq_true,eq_self,if_true,if_false,Nat.zero_add,Jt,Yz,Ju,Jv,Jw,Y0,Jx,true_and]
      exact fin_any (fun n => nofun) hT
end Z

namespace Z
open PySem PySem.Spec L2

/-! ### a count, by the law's look, whole -/
theorem fVs_str : ∀ xs : List Str, (xs.map Dv.str).mapM fV = some (xs.map V.str)
  | [] => rfl
  | x :: xs => by
    rw [List.map_cons, List.mapM_cons, fVs_str xs]; rfl
theorem count_strs {xs : List Str} {z : Str} {s : Sto} : gCountT (.tup (xs.map .str)) [.str z] s = .ok (.int ((xs.count z : Nat) : Int)) s := by
  have e : ∀ xs : List Str, (xs.map V.str).countP (fun w => eqV w (V.str z)) = xs.count z := fun xs => by
    rw [List.countP_map, List.count]; rfl
  show (match fV (.str z), (xs.map Dv.str).mapM fV with | some u, some us => Rs.ok (Dv.int ((us.countP fun z => eqV z u : Nat) : Int)) s | _, _ => .bad) = _
  rw [fVs_str]
  show Rs.ok (Dv.int (((xs.map V.str).countP fun w => eqV w (V.str z) : Nat) : Int)) s = _
  rw [e]
theorem nodup_count {xs : List Str} : (xs.filter fun x => decide (1 < xs.count x)).isEmpty = decide xs.Nodup := by
  by_cases h : xs.Nodup
  · rw [decide_eq_true h]
    have : (xs.filter fun x => decide (1 < xs.count x)) = [] := List.filter_eq_nil_iff.mpr fun x hx => by
      have := List.nodup_iff_count.mp h x
      simp; omega
    rw [this]; rfl
  · rw [decide_eq_false h]
    have : ∃ x, 1 < xs.count x := by
      apply Classical.byContradiction
      intro hn
      exact h (List.nodup_iff_count.mpr fun x => by
        apply Classical.byContradiction
        intro hx
        exact hn ⟨x, by omega⟩)
    obtain ⟨x, hx⟩ := this
    have hm : x ∈ xs.filter fun x => decide (1 < xs.count x) := List.mem_filter.mpr ⟨List.count_pos_iff.mp (by omega), decide_eq_true hx⟩
    cases hf : (xs.filter fun x => decide (1 < xs.count x)) with
    | nil => rw [hf] at hm; cases hm
    | cons a b => rfl
def bCnt25a : Fn Ct := (fIfS (fTest (fBin gNe (fVal (fLc (fSrc (fVar 0)) [2] (gNm 2) (fNotT (fTest (fIsi "tuple" (fVar 2)))) (fVar 2))) (fVal (fLst (fNil))))) (fRet (fC (.bl false))) (fNop))
def bCnt25b (φw : Phi) : Fn Ct := (fIfS (fOrT (fTest (fBin gLt (fCall gLen (fCons (fVar 1) (fNil))) (fC (.int 2)))) (fTest (fBin gNe (fVal (fLc (fSrc (fVar 1)) [2] (gNm 2) (fNotT (fTest (fCall φw (fCons (fVar 2) (fNil))))) (fVar 2))) (fVal (fLst (fNil)))))) (fRet (fC (.bl false))) (fNop))
def bCnt25c : Fn Ct := (fIfS (fTest (fBin gGt (fCall gLen (fCons (fVal (fLc (fSrc (fVar 1)) [2] (gNm 2) (fTest (fBin gGt (fMt isT gCountT (fVar 1) (fCons (fVar 2) (fNil))) (fC (.int 1)))) (fVar 2))) (fNil))) (fC (.int 0)))) (fRet (fC (.bl false))) (fNop))
def bCnt25d (φp : Phi) : Fn Ct := (fIfS (fTest (fBin gNe (fVal (fLc (fSrc (fBin gIx (fVar 0) (fC (.int 1)))) [3] (gNm 3) (fNotT (fTest (fCall φp (fCons (fVar 1) (fCons (fVar 3) (fNil)))))) (fVar 3))) (fVal (fLst (fNil))))) (fRet (fC (.bl false))) (fNop))
def bCnt25e (φr : Phi) : Fn Ct := (fRet (fBin gEq (fVal (fLc (fSrc (fBin gIx (fVar 0) (fC (.int 2)))) [4] (gNm 4) (fOrT (fTest (fBin gEq (fVar 4) (fTup (fNil)))) (fNotT (fTest (fCall φr (fCons (fVar 1) (fCons (fVar 4) (fNil))))))) (fVar 4))) (fVal (fLst (fNil)))))
def bCnt25 (ba bb bc bd be : Fn Ct) : Fn Ct :=
  fSeq (fIfS (fOrT (fNotT (fTest (fIsi "tuple" (fVar 0)))) (fTest (fBin gNe (fCall gLen (fCons (fVar 0) (fNil))) (fC (.int 3))))) (fRet (fC (.bl false))) (fNop))
  (fSeq ba
  (fSeq (fSet 1 (fBin gIx (fVar 0) (fC (.int 0))))
  (fSeq bb
  (fSeq bc
  (fSeq bd be)))))
theorem cnt25a_spec {b : Fn Ct} (hb : b = bCnt25a) {ds : List Dv} (h : Thg (.tup ds)) {v1 v3 v4 : Option Dv} {s : Sto} {R : Ct → Sto → Prop} (hR : ds.all isTupD = true → R (.next [some (.tup ds), v1, none, v3, v4]) s) (hR2 : ds.all isTupD = false → R (.ret (.bl false)) s) :
    OkE nX (b [some (.tup ds), v1, none, v3, v4] s) R := by
  subst hb
  obtain ⟨g, gw, gl⟩ := h.tup
  unfold bCnt25a
  simp only [Y1,Qf,Qt,Qu,Qa,Qg,Qv,Qw,Qx,Qy,Qh,Qz,Jy,Qi,Qb,Qj,Qk,Q0,Jz,Q1,Q2,J0,Q3,Q4,J1,Ql,Qm,Qn,Q5,Qo,Q6,Qp,Q7,Q8,J2,Q9,Ja,J3,J4,J5,Jb,J6,J7,Jc,J8,J9,Jd,Je,Ya,Jf,Yb,Jg,Jh,Y8,Yc,Ji,Yd,Ye,Yf,Yg,Yh,Y2,Jj,Qq,Jk,Yi,Jl,Jm,Yj,Y3,Yk,Yl,Y4,Ym,Y5,Yn,Qc,Yo,Jn,Yp,Yq,Y6,Yr,Qd,Jo,Jp,Y7,Ys,Yt,Yu,Yv,Yw,Yx,Jq,Jr,Qr,Js,Yy,Qe,Qs,List.set_cons_zero,List.set_cons_succ,List.map_cons,List.map_nil,List.replicate,List.cons_append,List.nil_append,List.length_cons,List.length_nil,Bool.false_eq_true,eq_self,if_true,if_false,Nat.zero_add,Jt,Yz,Ju,Jv,Jw,Y0,Jx,true_and]
  refine ⟨decide_eq_true (by omega), ?_⟩
  refine ok_map (fun d => !isTupD d) (fun d => d) (fun d hd => ?_) ?_
  · have td : Thg d := .of g gw hd
    simp only [Y1,Qf,Qt,Qu,Qa,Qg,Qv,Qw,Qx,Qy,Qh,Qz,Jy,Qi,Qb,Qj,Qk,Q0,Jz,Q1,Q2,J0,Q3,Q4,J1,Ql,Qm,Qn,Q5,Qo,Q6,Qp,Q7,Q8,J2,Q9,Ja,J3,J4,J5,Jb,J6,J7,Jc,J8,J9,Jd,Je,Ya,Jf,Yb,Jg,Jh,Y8,Yc,Ji,Yd,Ye,Yf,Yg,Yh,Y2,Jj,Qq,Jk,Yi,Jl,Jm,Yj,Y3,Yk,Yl,Y4,Ym,Y5,Yn,Qc,Yo,Jn,Yp,Yq,Y6,Yr,Qd,Jo,Jp,Y7,Ys,Yt,Yu,Yv,Yw,Yx,Jq,Jr,Qr,Js,Yy,Qe,Qs,List.set_cons_zero,List.set_cons_succ,List.map_cons,List.map_nil,List.replicate,List.cons_append,List.nil_append,List.length_cons,List.length_nil,Bool.false_eq_true,eq_self,if_true,if_false,Nat.zero_add,Jt,Yz,Ju,Jv,Jw,Y0,Jx,true_and,wipeZ,ok_isi,kIsi_ap]
    refine ⟨td.okX, ?_⟩
    rw [ty_tup td.g]
    cases e : isTupD d with
    | false =>
      simp only [Y1,Qf,Qt,Qu,Qa,Qg,Qv,Qw,Qx,Qy,Qh,Qz,Jy,Qi,Qb,Qj,Qk,Q0,Jz,Q1,Q2,J0,Q3,Q4,J1,Ql,Qm,Qn,Q5,Qo,Q6,Qp,Q7,Q8,J2,Q9,Ja,J3,J4,J5,Jb,J6,J7,Jc,J8,J9,Jd,Je,Ya,Jf,Yb,Jg,Jh,Y8,Yc,Ji,Yd,Ye,Yf,Yg,Yh,Y2,Jj,Qq,Jk,Yi,Jl,Jm,Yj,Y3,Yk,Yl,Y4,Ym,Y5,Yn,Qc,Yo,Jn,Yp,Yq,Y6,Yr,Qd,Jo,Jp,Y7,Ys,Yt,Yu,Yv,Yw,Yx,Jq,Jr,Qr,Js,Yy,Qe,Qs,List.set_cons_zero,List.set_cons_succ,List.map_cons,List.map_nil,List.replicate,List.cons_append,List.nil_append,List.length_cons,List.length_nil,Bool.false_eq_true,eq_self,if_true,if_false,Nat.zero_add,Jt,Yz,Ju,Jv,Jw,Y0,Jx,true_and,Bool.not_false]
      all_goals first | trivial | exact ⟨rfl, rfl⟩ | exact ⟨rfl, trivial⟩
    | true =>
      simp only [Y1,Qf,Qt,Qu,Qa,Qg,Qv,Qw,Qx,Qy,Qh,Qz,Jy,Qi,Qb,Qj,Qk,Q0,Jz,Q1,Q2,J0,Q3,Q4,J1,Ql,Qm,Qn,Q5,Qo,Q6,Qp,Q7,Q8,J2,Q9,Ja,J3,J4,J5,Jb,J6,J7,Jc,J8,J9,Jd,Je,Ya,Jf,Yb,Jg,Jh,Y8,Yc,Ji,Yd,Ye,Yf,Yg,Yh,Y2,Jj,Qq,Jk,Yi,Jl,Jm,Yj,Y3,Yk,Yl,Y4,Ym,Y5,Yn,Qc,Yo,Jn,Yp,Yq,Y6,Yr,Qd,Jo,Jp,Y7,Ys,Yt,Yu,Yv,Yw,Yx,Jq,Jr,Qr,Js,Yy,Qe,Qs,List.set_cons_zero,List.set_cons_succ,List.map_cons,List.map_nil,List.replicate,List.cons_append,List.nil_append,List.length_cons,List.length_nil,Bool.false_eq_true,eq_self,if_true,if_false,Nat.zero_add,Jt,Yz,Ju,Jv,Jw,Y0,Jx,true_and,Bool.not_true]
      all_goals first | trivial | exact ⟨rfl, rfl⟩ | exact ⟨rfl, trivial⟩
  have hf : gbs 29 ((ds.filter fun d => !isTupD d).map fun d => d) = true := gbs_sub g fun d hd => by
    rw [List.map_id'] at hd
    exact (List.mem_filter.mp hd).1
  rw [List.map_id'] at hf ⊢
  simp only [Y1,Qf,Qt,Qu,Qa,Qg,Qv,Qw,Qx,Qy,Qh,Qz,Jy,Qi,Qb,Qj,Qk,Q0,Jz,Q1,Q2,J0,Q3,Q4,J1,Ql,Qm,Qn,Q5,Qo,Q6,Qp,Q7,Q8,J2,Q9,Ja,J3,J4,J5,Jb,J6,J7,Jc,J8,J9,Jd,Je,Ya,Jf,Yb,Jg,Jh,Y8,Yc,Ji,Yd,Ye,Yf,Yg,Yh,Y2,Jj,Qq,Jk,Yi,Jl,Jm,Yj,Y3,Yk,Yl,Y4,Ym,Y5,Yn,Qc,Yo,Jn,Yp,Yq,Y6,Yr,Qd,Jo,Jp,Y7,Ys,Yt,Yu,Yv,Yw,Yx,Jq,Jr,Qr,Js,Yy,Qe,Qs,List.set_cons_zero,List.set_cons_succ,List.map_cons,List.map_nil,List.replicate,List.cons_append,List.nil_append,List.length_cons,List.length_nil,Bool.false_eq_true,eq_self,if_true,if_false,Nat.zero_add,Jt,Yz,Ju,Jv,Jw,Y0,Jx,true_and,neL_nil hf (by decide),filt_all (p := fun d => !isTupD d) (q := isTupD) (fun _ => rfl)]
  cases e : ds.all isTupD with
  | false => simp only [Y1,Qf,Qt,Qu,Qa,Qg,Qv,Qw,Qx,Qy,Qh,Qz,Jy,Qi,Qb,Qj,Qk,Q0,Jz,Q1,Q2,J0,Q3,Q4,J1,Ql,Qm,Qn,Q5,Qo,Q6,Qp,Q7,Q8,J2,Q9,Ja,J3,J4,J5,Jb,J6,J7,Jc,J8,J9,Jd,Je,Ya,Jf,Yb,Jg,Jh,Y8,Yc,Ji,Yd,Ye,Yf,Yg,Yh,Y2,Jj,Qq,Jk,Yi,Jl,Jm,Yj,Y3,Yk,Yl,Y4,Ym,Y5,Yn,Qc,Yo,Jn,Yp,Yq,Y6,Yr,Qd,Jo,Jp,Y7,Ys,Yt,Yu,Yv,Yw,Yx,Jq,Jr,Qr,Js,Yy,Qe,Qs,List.set_cons_zero,List.set_cons_succ,List.map_cons,List.map_nil,List.replicate,List.cons_append,List.nil_append,List.length_cons,List.length_nil,Bool.false_eq_true,eq_self,if_true,if_false,Nat.zero_add,Jt,Yz,Ju,Jv,Jw,Y0,Jx,true_and,Bool.not_false]; exact ⟨rfl, hR2 e⟩
  | true => simp only [Y1,Qf,Qt,Qu,Qa,Qg,Qv,Qw,Qx,Qy,Qh,Qz,Jy,Qi,Qb,Qj,Qk,Q0,Jz,Q1,Q2,J0,Q3,Q4,J1,Ql,Qm,Qn,Q5,Qo,Q6,Qp,Q7,Q8,J2,Q9,Ja,J3,J4,J5,Jb,J6,J7,Jc,J8,J9,Jd,Je,Ya,Jf,Yb,Jg,Jh,Y8,Yc,Ji,Yd,Ye,Yf,Yg,Yh,Y2,Jj,Qq,Jk,Yi,Jl,Jm,Yj,Y3,Yk,Yl,Y4,Ym,Y5,Yn,Qc,Yo,Jn,Yp,Yq,Y6,Yr,Qd,Jo,Jp,Y7,Ys,Yt,Yu,Yv,Yw,Yx,Jq,Jr,Qr,Js,Yy,Qe,Qs,List.set_cons_zero,List.set_cons_succ,List.map_cons,List.map_nil,List.replicate,List.cons_append,List.nil_append,List.length_cons,List.length_nil,Bool.false_eq_true,eq_self,if_true,if_false,Nat.zero_add,Jt,Yz,Ju,Jv,Jw,Y0,Jx,true_and,Bool.not_true]; exact ⟨rfl, hR e⟩
theorem cnt25b_spec {φw : Phi} {b : Fn Ct} (hb : b = bCnt25b φw) (hw : ThS φw isWordD) {ds : List Dv} (h : Thg (.tup ds)) {v0 v3 v4 : Option Dv} {s : Sto} {R : Ct → Sto → Prop} (hR : (decide (2 ≤ ds.length) && ds.all isWordD) = true → R (.next [v0, some (.tup ds), none, v3, v4]) s) (hR2 : (decide (2 ≤ ds.length) && ds.all isWordD) = false → R (.ret (.bl false)) s) :
    OkE nX (b [v0, some (.tup ds), none, v3, v4] s) R := by
  subst hb
  obtain ⟨g, gw, gl⟩ := h.tup
  unfold bCnt25b
  simp only [Y1,Qf,Qt,Qu,Qa,Qg,Qv,Qw,Qx,Qy,Qh,Qz,Jy,Qi,Qb,Qj,Qk,Q0,Jz,Q1,Q2,J0,Q3,Q4,J1,Ql,Qm,Qn,Q5,Qo,Q6,Qp,Q7,Q8,J2,Q9,Ja,J3,J4,J5,Jb,J6,J7,Jc,J8,J9,Jd,Je,Ya,Jf,Yb,Jg,Jh,Y8,Yc,Ji,Yd,Ye,Yf,Yg,Yh,Y2,Jj,Qq,Jk,Yi,Jl,Jm,Yj,Y3,Yk,Yl,Y4,Ym,Y5,Yn,Qc,Yo,Jn,Yp,Yq,Y6,Yr,Qd,Jo,Jp,Y7,Ys,Yt,Yu,Yv,Yw,Yx,Jq,Jr,Qr,Js,Yy,Qe,Qs,List.set_cons_zero,List.set_cons_succ,List.map_cons,List.map_nil,List.replicate,List.cons_append,List.nil_append,List.length_cons,List.length_nil,Bool.false_eq_true,eq_self,if_true,if_false,Nat.zero_add,Jt,Yz,Ju,Jv,Jw,Y0,Jx,true_and,len_tup,lt_int]
  by_cases h2 : 2 ≤ ds.length
  · rw [decide_eq_false (show ¬ ((ds.length : Int) < 2) by omega)]
    rw [decide_eq_true h2] at hR hR2
    simp only [Y1,Qf,Qt,Qu,Qa,Qg,Qv,Qw,Qx,Qy,Qh,Qz,Jy,Qi,Qb,Qj,Qk,Q0,Jz,Q1,Q2,J0,Q3,Q4,J1,Ql,Qm,Qn,Q5,Qo,Q6,Qp,Q7,Q8,J2,Q9,Ja,J3,J4,J5,Jb,J6,J7,Jc,J8,J9,Jd,Je,Ya,Jf,Yb,Jg,Jh,Y8,Yc,Ji,Yd,Ye,Yf,Yg,Yh,Y2,Jj,Qq,Jk,Yi,Jl,Jm,Yj,Y3,Yk,Yl,Y4,Ym,Y5,Yn,Qc,Yo,Jn,Yp,Yq,Y6,Yr,Qd,Jo,Jp,Y7,Ys,Yt,Yu,Yv,Yw,Yx,Jq,Jr,Qr,Js,Yy,Qe,Qs,List.set_cons_zero,List.set_cons_succ,List.map_cons,List.map_nil,List.replicate,List.cons_append,List.nil_append,List.length_cons,List.length_nil,Bool.false_eq_true,eq_self,if_true,if_false,Nat.zero_add,Jt,Yz,Ju,Jv,Jw,Y0,Jx,true_and]
    refine ⟨decide_eq_true (by omega), ?_⟩
    refine ok_map (fun d => !isWordD d) (fun d => d) (fun d hd => ?_) ?_
    · have td : Thg d := .of g gw hd
      simp only [Y1,Qf,Qt,Qu,Qa,Qg,Qv,Qw,Qx,Qy,Qh,Qz,Jy,Qi,Qb,Qj,Qk,Q0,Jz,Q1,Q2,J0,Q3,Q4,J1,Ql,Qm,Qn,Q5,Qo,Q6,Qp,Q7,Q8,J2,Q9,Ja,J3,J4,J5,Jb,J6,J7,Jc,J8,J9,Jd,Je,Ya,Jf,Yb,Jg,Jh,Y8,Yc,Ji,Yd,Ye,Yf,Yg,Yh,Y2,Jj,Qq,Jk,Yi,Jl,Jm,Yj,Y3,Yk,Yl,Y4,Ym,Y5,Yn,Qc,Yo,Jn,Yp,Yq,Y6,Yr,Qd,Jo,Jp,Y7,Ys,Yt,Yu,Yv,Yw,Yx,Jq,Jr,Qr,Js,Yy,Qe,Qs,List.set_cons_zero,List.set_cons_succ,List.map_cons,List.map_nil,List.replicate,List.cons_append,List.nil_append,List.length_cons,List.length_nil,Bool.false_eq_true,eq_self,if_true,if_false,Nat.zero_add,Jt,Yz,Ju,Jv,Jw,Y0,Jx,true_and,wipeZ]
      refine hw d s _ td ?_
      cases e : isWordD d with
      | false =>
        simp only [Y1,Qf,Qt,Qu,Qa,Qg,Qv,Qw,Qx,Qy,Qh,Qz,Jy,Qi,Qb,Qj,Qk,Q0,Jz,Q1,Q2,J0,Q3,Q4,J1,Ql,Qm,Qn,Q5,Qo,Q6,Qp,Q7,Q8,J2,Q9,Ja,J3,J4,J5,Jb,J6,J7,Jc,J8,J9,Jd,Je,Ya,Jf,Yb,Jg,Jh,Y8,Yc,Ji,Yd,Ye,Yf,Yg,Yh,Y2,Jj,Qq,Jk,Yi,Jl,Jm,Yj,Y3,Yk,Yl,Y4,Ym,Y5,Yn,Qc,Yo,Jn,Yp,Yq,Y6,Yr,Qd,Jo,Jp,Y7,Ys,Yt,Yu,Yv,Yw,Yx,Jq,Jr,Qr,Js,Yy,Qe,Qs,List.set_cons_zero,List.set_cons_succ,List.map_cons,List.map_nil,List.replicate,List.cons_append,List.nil_append,List.length_cons,List.length_nil,Bool.false_eq_true,eq_self,if_true,if_false,Nat.zero_add,Jt,Yz,Ju,Jv,Jw,Y0,Jx,true_and,Bool.not_false]
        all_goals first | trivial | exact ⟨rfl, rfl⟩ | exact ⟨rfl, trivial⟩
      | true =>
        simp only [Y1,Qf,Qt,Qu,Qa,Qg,Qv,Qw,Qx,Qy,Qh,Qz,Jy,Qi,Qb,Qj,Qk,Q0,Jz,Q1,Q2,J0,Q3,Q4,J1,Ql,Qm,Qn,Q5,Qo,Q6,Qp,Q7,Q8,J2,Q9,Ja,J3,J4,J5,Jb,J6,J7,Jc,J8,J9,Jd,Je,Ya,Jf,Yb,Jg,Jh,Y8,Yc,Ji,Yd,Ye,Yf,Yg,Yh,Y2,Jj,Qq,Jk,Yi,Jl,Jm,Yj,Y3,Yk,Yl,Y4,Ym,Y5,Yn,Qc,Yo,Jn,Yp,Yq,Y6,Yr,Qd,Jo,Jp,Y7,Ys,Yt,Yu,Yv,Yw,Yx,Jq,Jr,Qr,Js,Yy,Qe,Qs,List.set_cons_zero,List.set_cons_succ,List.map_cons,List.map_nil,List.replicate,List.cons_append,List.nil_append,List.length_cons,List.length_nil,Bool.false_eq_true,eq_self,if_true,if_false,Nat.zero_add,Jt,Yz,Ju,Jv,Jw,Y0,Jx,true_and,Bool.not_true]
        all_goals first | trivial | exact ⟨rfl, rfl⟩ | exact ⟨rfl, trivial⟩
    have hf : gbs 29 ((ds.filter fun d => !isWordD d).map fun d => d) = true := gbs_sub g fun d hd => by
      rw [List.map_id'] at hd
      exact (List.mem_filter.mp hd).1
    rw [List.map_id'] at hf ⊢
    simp only [Y1,Qf,Qt,Qu,Qa,Qg,Qv,Qw,Qx,Qy,Qh,Qz,Jy,Qi,Qb,Qj,Qk,Q0,Jz,Q1,Q2,J0,Q3,Q4,J1,Ql,Qm,Qn,Q5,Qo,Q6,Qp,Q7,Q8,J2,Q9,Ja,J3,J4,J5,Jb,J6,J7,Jc,J8,J9,Jd,Je,Ya,Jf,Yb,Jg,Jh,Y8,Yc,Ji,Yd,Ye,Yf,Yg,Yh,Y2,Jj,Qq,Jk,Yi,Jl,Jm,Yj,Y3,Yk,Yl,Y4,Ym,Y5,Yn,Qc,Yo,Jn,Yp,Yq,Y6,Yr,Qd,Jo,Jp,Y7,Ys,Yt,Yu,Yv,Yw,Yx,Jq,Jr,Qr,Js,Yy,Qe,Qs,List.set_cons_zero,List.set_cons_succ,List.map_cons,List.map_nil,List.replicate,List.cons_append,List.nil_append,List.length_cons,List.length_nil,Bool.false_eq_true,eq_self,if_true,if_false,Nat.zero_add,Jt,Yz,Ju,Jv,Jw,Y0,Jx,true_and,neL_nil hf (by decide),filt_all (p := fun d => !isWordD d) (q := isWordD) (fun _ => rfl)]
    cases e : ds.all isWordD with
    | false => simp only [Y1,Qf,Qt,Qu,Qa,Qg,Qv,Qw,Qx,Qy,Qh,Qz,Jy,Qi,Qb,Qj,Qk,Q0,Jz,Q1,Q2,J0,Q3,Q4,J1,Ql,Qm,Qn,Q5,Qo,Q6,Qp,Q7,Q8,J2,Q9,Ja,J3,J4,J5,Jb,J6,J7,Jc,J8,J9,Jd,Je,Ya,Jf,Yb,Jg,Jh,Y8,Yc,Ji,Yd,Ye,Yf,Yg,Yh,Y2,Jj,Qq,Jk,Yi,Jl,Jm,Yj,Y3,Yk,Yl,Y4,Ym,Y5,Yn,Qc,Yo,Jn,Yp,Yq,Y6,Yr,Qd,Jo,Jp,Y7,Ys,Yt,Yu,Yv,Yw,Yx,Jq,Jr,Qr,Js,Yy,Qe,Qs,List.set_cons_zero,List.set_cons_succ,List.map_cons,List.map_nil,List.replicate,List.cons_append,List.nil_append,List.length_cons,List.length_nil,Bool.false_eq_true,eq_self,if_true,if_false,Nat.zero_add,Jt,Yz,Ju,Jv,Jw,Y0,Jx,true_and,Bool.not_false]; exact ⟨rfl, hR2 (by rw [e]; rfl)⟩
    | true => simp only [Y1,Qf,Qt,Qu,Qa,Qg,Qv,Qw,Qx,Qy,Qh,Qz,Jy,Qi,Qb,Qj,Qk,Q0,Jz,Q1,Q2,J0,Q3,Q4,J1,Ql,Qm,Qn,Q5,Qo,Q6,Qp,Q7,Q8,J2,Q9,Ja,J3,J4,J5,Jb,J6,J7,Jc,J8,J9,Jd,Je,Ya,Jf,Yb,Jg,Jh,Y8,Yc,Ji,Yd,Ye,Yf,Yg,Yh,Y2,Jj,Qq,Jk,Yi,Jl,Jm,Yj,Y3,Yk,Yl,Y4,Ym,Y5,Yn,Qc,Yo,Jn,Yp,Yq,Y6,Yr,Qd,Jo,Jp,Y7,Ys,Yt,Yu,Yv,Yw,Yx,Jq,Jr,Qr,Js,Yy,Qe,Qs,List.set_cons_zero,List.set_cons_succ,List.map_cons,List.map_nil,List.replicate,List.cons_append,List.nil_append,List.length_cons,List.length_nil,Bool.false_eq_true,eq_self,if_true,if_false,Nat.zero_add,Jt,Yz,Ju,Jv,Jw,Y0,Jx,true_and,Bool.not_true]; exact ⟨rfl, hR (by rw [e]; rfl)⟩
  · rw [decide_eq_true (show (ds.length : Int) < 2 by omega)]
    simp only [Y1,Qf,Qt,Qu,Qa,Qg,Qv,Qw,Qx,Qy,Qh,Qz,Jy,Qi,Qb,Qj,Qk,Q0,Jz,Q1,Q2,J0,Q3,Q4,J1,Ql,Qm,Qn,Q5,Qo,Q6,Qp,Q7,Q8,J2,Q9,Ja,J3,J4,J5,Jb,J6,J7,Jc,J8,J9,Jd,Je,Ya,Jf,Yb,Jg,Jh,Y8,Yc,Ji,Yd,Ye,Yf,Yg,Yh,Y2,Jj,Qq,Jk,Yi,Jl,Jm,Yj,Y3,Yk,Yl,Y4,Ym,Y5,Yn,Qc,Yo,Jn,Yp,Yq,Y6,Yr,Qd,Jo,Jp,Y7,Ys,Yt,Yu,Yv,Yw,Yx,Jq,Jr,Qr,Js,Yy,Qe,Qs,List.set_cons_zero,List.set_cons_succ,List.map_cons,List.map_nil,List.replicate,List.cons_append,List.nil_append,List.length_cons,List.length_nil,Bool.false_eq_true,eq_self,if_true,if_false,Nat.zero_add,Jt,Yz,Ju,Jv,Jw,Y0,Jx,true_and]
    exact hR2 (by rw [decide_eq_false h2]; rfl)
theorem cnt25c_spec {b : Fn Ct} (hb : b = bCnt25c) {zs : List Str} (hl : zs.length ≤ 160000) {v0 v3 v4 : Option Dv} {s : Sto} {R : Ct → Sto → Prop} (hR : decide zs.Nodup = true → R (.next [v0, some (encS zs), none, v3, v4]) s) (hR2 : decide zs.Nodup = false → R (.ret (.bl false)) s) :
    OkE nX (b [v0, some (encS zs), none, v3, v4] s) R := by
  subst hb
  unfold bCnt25c
  have ec : ∀ (z : Str) (s : Sto), gCountT (encS zs) [.str z] s = .ok (.int ((zs.count z : Nat) : Int)) s := fun z s => count_strs
  simp only [Y1,Qf,Qt,Qu,Qa,Qg,Qv,Qw,Qx,Qy,Qh,Qz,Jy,Qi,Qb,Qj,Qk,Q0,Jz,Q1,Q2,J0,Q3,Q4,J1,Ql,Qm,Qn,Q5,Qo,Q6,Qp,Q7,Q8,J2,Q9,Ja,J3,J4,J5,Jb,J6,J7,Jc,J8,J9,Jd,Je,Ya,Jf,Yb,Jg,Jh,Y8,Yc,Ji,Yd,Ye,Yf,Yg,Yh,Y2,Jj,Qq,Jk,Yi,Jl,Jm,Yj,Y3,Yk,Yl,Y4,Ym,Y5,Yn,Qc,Yo,Jn,Yp,Yq,Y6,Yr,Qd,Jo,Jp,Y7,Ys,Yt,Yu,Yv,Yw,Yx,Jq,Jr,Qr,Js,Yy,Qe,Qs,List.set_cons_zero,List.set_cons_succ,List.map_cons,List.map_nil,List.replicate,List.cons_append,List.nil_append,List.length_cons,List.length_nil,Bool.false_eq_true,eq_self,if_true,if_false,Nat.zero_add,Jt,Yz,Ju,Jv,Jw,Y0,Jx,true_and]
  refine ⟨decide_eq_true (by rw [List.length_map]; omega), ?_⟩
  refine ok_pick (xs := zs) (enc := Dv.str) (p := fun z => decide (1 < zs.count z)) (f := Dv.str) (fun z hz => ?_) ?_
  · simp only [Y1,Qf,Qt,Qu,Qa,Qg,Qv,Qw,Qx,Qy,Qh,Qz,Jy,Qi,Qb,Qj,Qk,Q0,Jz,Q1,Q2,J0,Q3,Q4,J1,Ql,Qm,Qn,Q5,Qo,Q6,Qp,Q7,Q8,J2,Q9,Ja,J3,J4,J5,Jb,J6,J7,Jc,J8,J9,Jd,Je,Ya,Jf,Yb,Jg,Jh,Y8,Yc,Ji,Yd,Ye,Yf,Yg,Yh,Y2,Jj,Qq,Jk,Yi,Jl,Jm,Yj,Y3,Yk,Yl,Y4,Ym,Y5,Yn,Qc,Yo,Jn,Yp,Yq,Y6,Yr,Qd,Jo,Jp,Y7,Ys,Yt,Yu,Yv,Yw,Yx,Jq,Jr,Qr,Js,Yy,Qe,Qs,List.set_cons_zero,List.set_cons_succ,List.map_cons,List.map_nil,List.replicate,List.cons_append,List.nil_append,List.length_cons,List.length_nil,Bool.false_eq_true,eq_self,if_true,if_false,Nat.zero_add,Jt,Yz,Ju,Jv,Jw,Y0,Jx,true_and,wipeZ,ec,gt_int]
    have : decide ((1 : Int) < ((zs.count z : Nat) : Int)) = decide (1 < zs.count z) := by
      by_cases h : 1 < zs.count z
      · rw [decide_eq_true h, decide_eq_true (by omega)]
      · rw [decide_eq_false h, decide_eq_false (by omega)]
    rw [this]
    all_goals first | trivial | exact ⟨rfl, rfl, fun _ => trivial⟩ | exact ⟨rfl, fun _ => trivial⟩ | exact ⟨rfl, rfl, rfl, fun _ => trivial⟩ | exact ⟨rfl, rfl, fun _ => ⟨rfl, rfl⟩⟩
  simp only [Y1,Qf,Qt,Qu,Qa,Qg,Qv,Qw,Qx,Qy,Qh,Qz,Jy,Qi,Qb,Qj,Qk,Q0,Jz,Q1,Q2,J0,Q3,Q4,J1,Ql,Qm,Qn,Q5,Qo,Q6,Qp,Q7,Q8,J2,Q9,Ja,J3,J4,J5,Jb,J6,J7,Jc,J8,J9,Jd,Je,Ya,Jf,Yb,Jg,Jh,Y8,Yc,Ji,Yd,Ye,Yf,Yg,Yh,Y2,Jj,Qq,Jk,Yi,Jl,Jm,Yj,Y3,Yk,Yl,Y4,Ym,Y5,Yn,Qc,Yo,Jn,Yp,Yq,Y6,Yr,Qd,Jo,Jp,Y7,Ys,Yt,Yu,Yv,Yw,Yx,Jq,Jr,Qr,Js,Yy,Qe,Qs,List.set_cons_zero,List.set_cons_succ,List.map_cons,List.map_nil,List.replicate,List.cons_append,List.nil_append,List.length_cons,List.length_nil,Bool.false_eq_true,eq_self,if_true,if_false,Nat.zero_add,Jt,Yz,Ju,Jv,Jw,Y0,Jx,true_and,len_ls,List.length_map,gt_int]
  have hn := nodup_count (xs := zs)
  cases e : decide zs.Nodup with
  | false =>
    rw [e] at hn
    have : 0 < (zs.filter fun z => decide (1 < zs.count z)).length := by
      cases hf : (zs.filter fun z => decide (1 < zs.count z)) with
      | nil => rw [hf] at hn; cases hn
      | cons a b => simp
    rw [decide_eq_true (by omega)]
    simp only [Y1,Qf,Qt,Qu,Qa,Qg,Qv,Qw,Qx,Qy,Qh,Qz,Jy,Qi,Qb,Qj,Qk,Q0,Jz,Q1,Q2,J0,Q3,Q4,J1,Ql,Qm,Qn,Q5,Qo,Q6,Qp,Q7,Q8,J2,Q9,Ja,J3,J4,J5,Jb,J6,J7,Jc,J8,J9,Jd,Je,Ya,Jf,Yb,Jg,Jh,Y8,Yc,Ji,Yd,Ye,Yf,Yg,Yh,Y2,Jj,Qq,Jk,Yi,Jl,Jm,Yj,Y3,Yk,Yl,Y4,Ym,Y5,Yn,Qc,Yo,Jn,Yp,Yq,Y6,Yr,Qd,Jo,Jp,Y7,Ys,Yt,Yu,Yv,Yw,Yx,Jq,Jr,Qr,Js,Yy,Qe,Qs,List.set_cons_zero,List.set_cons_succ,List.map_cons,List.map_nil,List.replicate,List.cons_append,List.nil_append,List.length_cons,List.length_nil,Bool.false_eq_true,eq_self,if_true,if_false,Nat.zero_add,Jt,Yz,Ju,Jv,Jw,Y0,Jx,true_and]
    exact hR2 e
  | true =>
    rw [e] at hn
    rw [List.isEmpty_iff.mp hn]
    simp only [Y1,Qf,Qt,Qu,Qa,Qg,Qv,Qw,Qx,Qy,Qh,Qz,Jy,Qi,Qb,Qj,Qk,Q0,Jz,Q1,Q2,J0,Q3,Q4,J1,Ql,Qm,Qn,Q5,Qo,Q6,Qp,Q7,Q8,J2,Q9,Ja,J3,J4,J5,Jb,J6,J7,Jc,J8,J9,Jd,Je,Ya,Jf,Yb,Jg,Jh,Y8,Yc,Ji,Yd,Ye,Yf,Yg,Yh,Y2,Jj,Qq,Jk,Yi,Jl,Jm,Yj,Y3,Yk,Yl,Y4,Ym,Y5,Yn,Qc,Yo,Jn,Yp,Yq,Y6,Yr,Qd,Jo,Jp,Y7,Ys,Yt,Yu,Yv,Yw,Yx,Jq,Jr,Qr,Js,Yy,Qe,Qs,List.set_cons_zero,List.set_cons_succ,List.map_cons,List.map_nil,List.replicate,List.cons_append,List.nil_append,List.length_cons,List.length_nil,Bool.false_eq_true,eq_self,if_true,if_false,Nat.zero_add,Jt,Yz,Ju,Jv,Jw,Y0,Jx,true_and,show decide ((0 : Int) < ((([] : List Str).length : Nat) : Int)) = false from rfl]
    exact hR e
theorem cnt25d_spec {φp : Phi} {b : Fn Ct} (hb : b = bCnt25d φp) (hp : PilS φp) {zs : List Str} {l q : Dv} {ps : List Dv} (h : Thg (.tup ps)) {v2 v4 : Option Dv} {s : Sto} {R : Ct → Sto → Prop} (hR : ps.all (pileD zs) = true → R (.next [some (.tup [l, .tup ps, q]), some (encS zs), v2, none, v4]) s) (hR2 : ps.all (pileD zs) = false → R (.ret (.bl false)) s) :
    OkE nX (b [some (.tup [l, .tup ps, q]), some (encS zs), v2, none, v4] s) R := by
  subst hb
  obtain ⟨g, gw, gl⟩ := h.tup
  unfold bCnt25d
  have i1 : ∀ s : Sto, gIx (.tup [l, .tup ps, q]) (.int 1) s = .ok (.tup ps) s := fun s => rfl
  simp only [Y1,Qf,Qt,Qu,Qa,Qg,Qv,Qw,Qx,Qy,Qh,Qz,Jy,Qi,Qb,Qj,Qk,Q0,Jz,Q1,Q2,J0,Q3,Q4,J1,Ql,Qm,Qn,Q5,Qo,Q6,Qp,Q7,Q8,J2,Q9,Ja,J3,J4,J5,Jb,J6,J7,Jc,J8,J9,Jd,Je,Ya,Jf,Yb,Jg,Jh,Y8,Yc,Ji,Yd,Ye,Yf,Yg,Yh,Y2,Jj,Qq,Jk,Yi,Jl,Jm,Yj,Y3,Yk,Yl,Y4,Ym,Y5,Yn,Qc,Yo,Jn,Yp,Yq,Y6,Yr,Qd,Jo,Jp,Y7,Ys,Yt,Yu,Yv,Yw,Yx,Jq,Jr,Qr,Js,Yy,Qe,Qs,List.set_cons_zero,List.set_cons_succ,List.map_cons,List.map_nil,List.replicate,List.cons_append,List.nil_append,List.length_cons,List.length_nil,Bool.false_eq_true,eq_self,if_true,if_false,Nat.zero_add,Jt,Yz,Ju,Jv,Jw,Y0,Jx,true_and,i1]
  refine ⟨decide_eq_true (by omega), ?_⟩
  refine ok_map (fun d => !pileD zs d) (fun d => d) (fun d hd => ?_) ?_
  · have td : Thg d := .of g gw hd
    simp only [Y1,Qf,Qt,Qu,Qa,Qg,Qv,Qw,Qx,Qy,Qh,Qz,Jy,Qi,Qb,Qj,Qk,Q0,Jz,Q1,Q2,J0,Q3,Q4,J1,Ql,Qm,Qn,Q5,Qo,Q6,Qp,Q7,Q8,J2,Q9,Ja,J3,J4,J5,Jb,J6,J7,Jc,J8,J9,Jd,Je,Ya,Jf,Yb,Jg,Jh,Y8,Yc,Ji,Yd,Ye,Yf,Yg,Yh,Y2,Jj,Qq,Jk,Yi,Jl,Jm,Yj,Y3,Yk,Yl,Y4,Ym,Y5,Yn,Qc,Yo,Jn,Yp,Yq,Y6,Yr,Qd,Jo,Jp,Y7,Ys,Yt,Yu,Yv,Yw,Yx,Jq,Jr,Qr,Js,Yy,Qe,Qs,List.set_cons_zero,List.set_cons_succ,List.map_cons,List.map_nil,List.replicate,List.cons_append,List.nil_append,List.length_cons,List.length_nil,Bool.false_eq_true,eq_self,if_true,if_false,Nat.zero_add,Jt,Yz,Ju,Jv,Jw,Y0,Jx,true_and,wipeZ]
    refine hp zs d s _ td ?_
    cases e : pileD zs d with
    | false =>
      simp only [Y1,Qf,Qt,Qu,Qa,Qg,Qv,Qw,Qx,Qy,Qh,Qz,Jy,Qi,Qb,Qj,Qk,Q0,Jz,Q1,Q2,J0,Q3,Q4,J1,Ql,Qm,Qn,Q5,Qo,Q6,Qp,Q7,Q8,J2,Q9,Ja,J3,J4,J5,Jb,J6,J7,Jc,J8,J9,Jd,Je,Ya,Jf,Yb,Jg,Jh,Y8,Yc,Ji,Yd,Ye,Yf,Yg,Yh,Y2,Jj,Qq,Jk,Yi,Jl,Jm,Yj,Y3,Yk,Yl,Y4,Ym,Y5,Yn,Qc,Yo,Jn,Yp,Yq,Y6,Yr,Qd,Jo,Jp,Y7,Ys,Yt,Yu,Yv,Yw,Yx,Jq,Jr,Qr,Js,Yy,Qe,Qs,List.set_cons_zero,List.set_cons_succ,List.map_cons,List.map_nil,List.replicate,List.cons_append,List.nil_append,List.length_cons,List.length_nil,Bool.false_eq_true,eq_self,if_true,if_false,Nat.zero_add,Jt,Yz,Ju,Jv,Jw,Y0,Jx,true_and,Bool.not_false]
      all_goals first | trivial | exact ⟨rfl, rfl⟩ | exact ⟨rfl, trivial⟩
    | true =>
      simp only [Y1,Qf,Qt,Qu,Qa,Qg,Qv,Qw,Qx,Qy,Qh,Qz,Jy,Qi,Qb,Qj,Qk,Q0,Jz,Q1,Q2,J0,Q3,Q4,J1,Ql,Qm,Qn,Q5,Qo,Q6,Qp,Q7,Q8,J2,Q9,Ja,J3,J4,J5,Jb,J6,J7,Jc,J8,J9,Jd,Je,Ya,Jf,Yb,Jg,Jh,Y8,Yc,Ji,Yd,Ye,Yf,Yg,Yh,Y2,Jj,Qq,Jk,Yi,Jl,Jm,Yj,Y3,Yk,Yl,Y4,Ym,Y5,Yn,Qc,Yo,Jn,Yp,Yq,Y6,Yr,Qd,Jo,Jp,Y7,Ys,Yt,Yu,Yv,Yw,Yx,Jq,Jr,Qr,Js,Yy,Qe,Qs,List.set_cons_zero,List.set_cons_succ,List.map_cons,List.map_nil,List.replicate,List.cons_append,List.nil_append,List.length_cons,List.length_nil,Bool.false_eq_true,eq_self,if_true,if_false,Nat.zero_add,Jt,Yz,Ju,Jv,Jw,Y0,Jx,true_and,Bool.not_true]
      all_goals first | trivial | exact ⟨rfl, rfl⟩ | exact ⟨rfl, trivial⟩
  have hf : gbs 29 ((ps.filter fun d => !pileD zs d).map fun d => d) = true := gbs_sub g fun d hd => by
    rw [List.map_id'] at hd
    exact (List.mem_filter.mp hd).1
  rw [List.map_id'] at hf ⊢
  simp only [Y1,Qf,Qt,Qu,Qa,Qg,Qv,Qw,Qx,Qy,Qh,Qz,Jy,Qi,Qb,Qj,Qk,Q0,Jz,Q1,Q2,J0,Q3,Q4,J1,Ql,Qm,Qn,Q5,Qo,Q6,Qp,Q7,Q8,J2,Q9,Ja,J3,J4,J5,Jb,J6,J7,Jc,J8,J9,Jd,Je,Ya,Jf,Yb,Jg,Jh,Y8,Yc,Ji,Yd,Ye,Yf,Yg,Yh,Y2,Jj,Qq,Jk,Yi,Jl,Jm,Yj,Y3,Yk,Yl,Y4,Ym,Y5,Yn,Qc,Yo,Jn,Yp,Yq,Y6,Yr,Qd,Jo,Jp,Y7,Ys,Yt,Yu,Yv,Yw,Yx,Jq,Jr,Qr,Js,Yy,Qe,Qs,List.set_cons_zero,List.set_cons_succ,List.map_cons,List.map_nil,List.replicate,List.cons_append,List.nil_append,List.length_cons,List.length_nil,Bool.false_eq_true,eq_self,if_true,if_false,Nat.zero_add,Jt,Yz,Ju,Jv,Jw,Y0,Jx,true_and,neL_nil hf (by decide),filt_all (p := fun d => !pileD zs d) (q := pileD zs) (fun _ => rfl)]
  cases e : ps.all (pileD zs) with
  | false => simp only [Y1,Qf,Qt,Qu,Qa,Qg,Qv,Qw,Qx,Qy,Qh,Qz,Jy,Qi,Qb,Qj,Qk,Q0,Jz,Q1,Q2,J0,Q3,Q4,J1,Ql,Qm,Qn,Q5,Qo,Q6,Qp,Q7,Q8,J2,Q9,Ja,J3,J4,J5,Jb,J6,J7,Jc,J8,J9,Jd,Je,Ya,Jf,Yb,Jg,Jh,Y8,Yc,Ji,Yd,Ye,Yf,Yg,Yh,Y2,Jj,Qq,Jk,Yi,Jl,Jm,Yj,Y3,Yk,Yl,Y4,Ym,Y5,Yn,Qc,Yo,Jn,Yp,Yq,Y6,Yr,Qd,Jo,Jp,Y7,Ys,Yt,Yu,Yv,Yw,Yx,Jq,Jr,Qr,Js,Yy,Qe,Qs,List.set_cons_zero,List.set_cons_succ,List.map_cons,List.map_nil,List.replicate,List.cons_append,List.nil_append,List.length_cons,List.length_nil,Bool.false_eq_true,eq_self,if_true,if_false,Nat.zero_add,Jt,Yz,Ju,Jv,Jw,Y0,Jx,true_and,Bool.not_false]; exact ⟨rfl, hR2 e⟩
  | true => simp only [Y1,Qf,Qt,Qu,Qa,Qg,Qv,Qw,Qx,Qy,Qh,Qz,Jy,Qi,Qb,Qj,Qk,Q0,Jz,Q1,Q2,J0,Q3,Q4,J1,Ql,Qm,Qn,Q5,Qo,Q6,Qp,Q7,Q8,J2,Q9,Ja,J3,J4,J5,Jb,J6,J7,Jc,J8,J9,Jd,Je,Ya,Jf,Yb,Jg,Jh,Y8,Yc,Ji,Yd,Ye,Yf,Yg,Yh,Y2,Jj,Qq,Jk,Yi,Jl,Jm,Yj,Y3,Yk,Yl,Y4,Ym,Y5,Yn,Qc,Yo,Jn,Yp,Yq,Y6,Yr,Qd,Jo,Jp,Y7,Ys,Yt,Yu,Yv,Yw,Yx,Jq,Jr,Qr,Js,Yy,Qe,Qs,List.set_cons_zero,List.set_cons_succ,List.map_cons,List.map_nil,List.replicate,List.cons_append,List.nil_append,List.length_cons,List.length_nil,Bool.false_eq_true,eq_self,if_true,if_false,Nat.zero_add,Jt,Yz,Ju,Jv,Jw,Y0,Jx,true_and,Bool.not_true]; exact ⟨rfl, hR e⟩
theorem cnt25e_spec {φr : Phi} {b : Fn Ct} (hb : b = bCnt25e φr) (hr : NamS φr) {zs : List Str} {l p : Dv} {qs : List Dv} (h : Thg (.tup qs)) {v2 v3 : Option Dv} {s : Sto} {R : Ct → Sto → Prop} (hR : R (.ret (.bl (qs.all (doubtD zs)))) s) :
    OkE nX (b [some (.tup [l, p, .tup qs]), some (encS zs), v2, v3, none] s) R := by
  subst hb
  obtain ⟨g, gw, gl⟩ := h.tup
  unfold bCnt25e
  have i2 : ∀ s : Sto, gIx (.tup [l, p, .tup qs]) (.int 2) s = .ok (.tup qs) s := fun s => rfl
  simp only [Y1,Qf,Qt,Qu,Qa,Qg,Qv,Qw,Qx,Qy,Qh,Qz,Jy,Qi,Qb,Qj,Qk,Q0,Jz,Q1,Q2,J0,Q3,Q4,J1,Ql,Qm,Qn,Q5,Qo,Q6,Qp,Q7,Q8,J2,Q9,Ja,J3,J4,J5,Jb,J6,J7,Jc,J8,J9,Jd,Je,Ya,Jf,Yb,Jg,Jh,Y8,Yc,Ji,Yd,Ye,Yf,Yg,Yh,Y2,Jj,Qq,Jk,Yi,Jl,Jm,Yj,Y3,Yk,Yl,Y4,Ym,Y5,Yn,Qc,Yo,Jn,Yp,Yq,Y6,Yr,Qd,Jo,Jp,Y7,Ys,Yt,Yu,Yv,Yw,Yx,Jq,Jr,Qr,Js,Yy,Qe,Qs,List.set_cons_zero,List.set_cons_succ,List.map_cons,List.map_nil,List.replicate,List.cons_append,List.nil_append,List.length_cons,List.length_nil,Bool.false_eq_true,eq_self,if_true,if_false,Nat.zero_add,Jt,Yz,Ju,Jv,Jw,Y0,Jx,true_and,i2]
  refine ⟨decide_eq_true (by omega), ?_⟩
  refine ok_map (fun d => !doubtD zs d) (fun d => d) (fun d hd => ?_) ?_
  · have td : Thg d := .of g gw hd
    simp only [Y1,Qf,Qt,Qu,Qa,Qg,Qv,Qw,Qx,Qy,Qh,Qz,Jy,Qi,Qb,Qj,Qk,Q0,Jz,Q1,Q2,J0,Q3,Q4,J1,Ql,Qm,Qn,Q5,Qo,Q6,Qp,Q7,Q8,J2,Q9,Ja,J3,J4,J5,Jb,J6,J7,Jc,J8,J9,Jd,Je,Ya,Jf,Yb,Jg,Jh,Y8,Yc,Ji,Yd,Ye,Yf,Yg,Yh,Y2,Jj,Qq,Jk,Yi,Jl,Jm,Yj,Y3,Yk,Yl,Y4,Ym,Y5,Yn,Qc,Yo,Jn,Yp,Yq,Y6,Yr,Qd,Jo,Jp,Y7,Ys,Yt,Yu,Yv,Yw,Yx,Jq,Jr,Qr,Js,Yy,Qe,Qs,List.set_cons_zero,List.set_cons_succ,List.map_cons,List.map_nil,List.replicate,List.cons_append,List.nil_append,List.length_cons,List.length_nil,Bool.false_eq_true,eq_self,if_true,if_false,Nat.zero_add,Jt,Yz,Ju,Jv,Jw,Y0,Jx,true_and,wipeZ,eq_nilD td]
    cases e0 : isNilT d with
    | true =>
      have : doubtD zs d = false := by
        cases d with
        | tup es =>
          have e0 : es.isEmpty = true := e0
          simp only [doubtD, neD, e0, Bool.not_true, Bool.and_false]
        | _ => cases e0
      rw [this]
      simp only [Y1,Qf,Qt,Qu,Qa,Qg,Qv,Qw,Qx,Qy,Qh,Qz,Jy,Qi,Qb,Qj,Qk,Q0,Jz,Q1,Q2,J0,Q3,Q4,J1,Ql,Qm,Qn,Q5,Qo,Q6,Qp,Q7,Q8,J2,Q9,Ja,J3,J4,J5,Jb,J6,J7,Jc,J8,J9,Jd,Je,Ya,Jf,Yb,Jg,Jh,Y8,Yc,Ji,Yd,Ye,Yf,Yg,Yh,Y2,Jj,Qq,Jk,Yi,Jl,Jm,Yj,Y3,Yk,Yl,Y4,Ym,Y5,Yn,Qc,Yo,Jn,Yp,Yq,Y6,Yr,Qd,Jo,Jp,Y7,Ys,Yt,Yu,Yv,Yw,Yx,Jq,Jr,Qr,Js,Yy,Qe,Qs,List.set_cons_zero,List.set_cons_succ,List.map_cons,List.map_nil,List.replicate,List.cons_append,List.nil_append,List.length_cons,List.length_nil,Bool.false_eq_true,eq_self,if_true,if_false,Nat.zero_add,Jt,Yz,Ju,Jv,Jw,Y0,Jx,true_and,Bool.not_false]
      all_goals first | trivial | exact ⟨rfl, rfl⟩ | exact ⟨rfl, trivial⟩
    | false =>
      simp only [Y1,Qf,Qt,Qu,Qa,Qg,Qv,Qw,Qx,Qy,Qh,Qz,Jy,Qi,Qb,Qj,Qk,Q0,Jz,Q1,Q2,J0,Q3,Q4,J1,Ql,Qm,Qn,Q5,Qo,Q6,Qp,Q7,Q8,J2,Q9,Ja,J3,J4,J5,Jb,J6,J7,Jc,J8,J9,Jd,Je,Ya,Jf,Yb,Jg,Jh,Y8,Yc,Ji,Yd,Ye,Yf,Yg,Yh,Y2,Jj,Qq,Jk,Yi,Jl,Jm,Yj,Y3,Yk,Yl,Y4,Ym,Y5,Yn,Qc,Yo,Jn,Yp,Yq,Y6,Yr,Qd,Jo,Jp,Y7,Ys,Yt,Yu,Yv,Yw,Yx,Jq,Jr,Qr,Js,Yy,Qe,Qs,List.set_cons_zero,List.set_cons_succ,List.map_cons,List.map_nil,List.replicate,List.cons_append,List.nil_append,List.length_cons,List.length_nil,Bool.false_eq_true,eq_self,if_true,if_false,Nat.zero_add,Jt,Yz,Ju,Jv,Jw,Y0,Jx,true_and]
      refine ⟨rfl, ?_⟩
      refine hr zs d s _ td ?_
      have : doubtD zs d = namesD zs d := by
        cases d with
        | tup es =>
          have e0 : es.isEmpty = false := e0
          simp only [doubtD, neD, e0, Bool.not_false, Bool.and_true]
        | _ => rfl
      rw [this]
      cases e : namesD zs d with
      | false =>
        simp only [Y1,Qf,Qt,Qu,Qa,Qg,Qv,Qw,Qx,Qy,Qh,Qz,Jy,Qi,Qb,Qj,Qk,Q0,Jz,Q1,Q2,J0,Q3,Q4,J1,Ql,Qm,Qn,Q5,Qo,Q6,Qp,Q7,Q8,J2,Q9,Ja,J3,J4,J5,Jb,J6,J7,Jc,J8,J9,Jd,Je,Ya,Jf,Yb,Jg,Jh,Y8,Yc,Ji,Yd,Ye,Yf,Yg,Yh,Y2,Jj,Qq,Jk,Yi,Jl,Jm,Yj,Y3,Yk,Yl,Y4,Ym,Y5,Yn,Qc,Yo,Jn,Yp,Yq,Y6,Yr,Qd,Jo,Jp,Y7,Ys,Yt,Yu,Yv,Yw,Yx,Jq,Jr,Qr,Js,Yy,Qe,Qs,List.set_cons_zero,List.set_cons_succ,List.map_cons,List.map_nil,List.replicate,List.cons_append,List.nil_append,List.length_cons,List.length_nil,Bool.false_eq_true,eq_self,if_true,if_false,Nat.zero_add,Jt,Yz,Ju,Jv,Jw,Y0,Jx,true_and,Bool.not_false]
        all_goals first | trivial | exact ⟨rfl, rfl⟩ | exact ⟨rfl, trivial⟩
      | true =>
        simp only [Y1,Qf,Qt,Qu,Qa,Qg,Qv,Qw,Qx,Qy,Qh,Qz,Jy,Qi,Qb,Qj,Qk,Q0,Jz,Q1,Q2,J0,Q3,Q4,J1,Ql,Qm,Qn,Q5,Qo,Q6,Qp,Q7,Q8,J2,Q9,Ja,J3,J4,J5,Jb,J6,J7,Jc,J8,J9,Jd,Je,Ya,Jf,Yb,Jg,Jh,Y8,Yc,Ji,Yd,Ye,Yf,Yg,Yh,Y2,Jj,Qq,Jk,Yi,Jl,Jm,Yj,Y3,Yk,Yl,Y4,Ym,Y5,Yn,Qc,Yo,Jn,Yp,Yq,Y6,Yr,Qd,Jo,Jp,Y7,Ys,Yt,Yu,Yv,Yw,Yx,Jq,Jr,Qr,Js,Yy,Qe,Qs,List.set_cons_zero,List.set_cons_succ,List.map_cons,List.map_nil,List.replicate,List.cons_append,List.nil_append,List.length_cons,List.length_nil,Bool.false_eq_true,eq_self,if_true,if_false,Nat.zero_add,Jt,Yz,Ju,Jv,Jw,Y0,Jx,true_and,Bool.not_true]
        all_goals first | trivial | exact ⟨rfl, rfl⟩ | exact ⟨rfl, trivial⟩
  have hf : gbs 29 ((qs.filter fun d => !doubtD zs d).map fun d => d) = true := gbs_sub g fun d hd => by
    rw [List.map_id'] at hd
    exact (List.mem_filter.mp hd).1
  rw [List.map_id'] at hf ⊢
  simp only [Y1,Qf,Qt,Qu,Qa,Qg,Qv,Qw,Qx,Qy,Qh,Qz,Jy,Qi,Qb,Qj,Qk,Q0,Jz,Q1,Q2,J0,Q3,Q4,J1,Ql,Qm,Qn,Q5,Qo,Q6,Qp,Q7,Q8,J2,Q9,Ja,J3,J4,J5,Jb,J6,J7,Jc,J8,J9,Jd,Je,Ya,Jf,Yb,Jg,Jh,Y8,Yc,Ji,Yd,Ye,Yf,Yg,Yh,Y2,Jj,Qq,Jk,Yi,Jl,Jm,Yj,Y3,Yk,Yl,Y4,Ym,Y5,Yn,Qc,Yo,Jn,Yp,Yq,Y6,Yr,Qd,Jo,Jp,Y7,Ys,Yt,Yu,Yv,Yw,Yx,Jq,Jr,Qr,Js,Yy,Qe,Qs,List.set_cons_zero,List.set_cons_succ,List.map_cons,List.map_nil,List.replicate,List.cons_append,List.nil_append,List.length_cons,List.length_nil,Bool.false_eq_true,eq_self,if_true,if_false,Nat.zero_add,Jt,Yz,Ju,Jv,Jw,Y0,Jx,true_and,eqL_nil hf (by decide),filt_all (p := fun d => !doubtD zs d) (q := doubtD zs) (fun _ => rfl)]
  exact ⟨rfl, hR⟩
theorem cnt25_spec {φw φp φr : Phi} {ba bb bc bd be : Fn Ct} (hba : ba = bCnt25a) (hbb : bb = bCnt25b φw) (hbc : bc = bCnt25c) (hbd : bd = bCnt25d φp) (hbe : be = bCnt25e φr) (hw : ThS φw isWordD) (hp : PilS φp) (hr : NamS φr) : ThC (fDef 1 5 (bCnt25 ba bb bc bd be)) countD := by
  intro d s T h ht hT
  rw [ok_def]
  refine ⟨rfl, ?_⟩
  unfold bCnt25
  simp only [Y1,Qf,Qt,Qu,Qa,Qg,Qv,Qw,Qx,Qy,Qh,Qz,Jy,Qi,Qb,Qj,Qk,Q0,Jz,Q1,Q2,J0,Q3,Q4,J1,Ql,Qm,Qn,Q5,Qo,Q6,Qp,Q7,Q8,J2,Q9,Ja,J3,J4,J5,Jb,J6,J7,Jc,J8,J9,Jd,Je,Ya,Jf,Yb,Jg,Jh,Y8,Yc,Ji,Yd,Ye,Yf,Yg,Yh,Y2,Jj,Qq,Jk,Yi,Jl,Jm,Yj,Y3,Yk,Yl,Y4,Ym,Y5,Yn,Qc,Yo,Jn,Yp,Yq,Y6,Yr,Qd,Jo,Jp,Y7,Ys,Yt,Yu,Yv,Yw,Yx,Jq,Jr,Qr,Js,Yy,Qe,Qs,List.set_cons_zero,List.set_cons_succ,List.map_cons,List.map_nil,List.replicate,List.cons_append,List.nil_append,List.length_cons,List.length_nil,Bool.false_eq_true,eq_self,if_true,if_false,Nat.zero_add,Jt,Yz,Ju,Jv,Jw,Y0,Jx,true_and,ok_isi,kIsi_ap]
  refine ⟨h.okX, ?_⟩
  rw [ty_tup h.g]
  cases e : isTupD d with
  | false =>
    rw [count_notT e] at hT
    simp only [Y1,Qf,Qt,Qu,Qa,Qg,Qv,Qw,Qx,Qy,Qh,Qz,Jy,Qi,Qb,Qj,Qk,Q0,Jz,Q1,Q2,J0,Q3,Q4,J1,Ql,Qm,Qn,Q5,Qo,Q6,Qp,Q7,Q8,J2,Q9,Ja,J3,J4,J5,Jb,J6,J7,Jc,J8,J9,Jd,Je,Ya,Jf,Yb,Jg,Jh,Y8,Yc,Ji,Yd,Ye,Yf,Yg,Yh,Y2,Jj,Qq,Jk,Yi,Jl,Jm,Yj,Y3,Yk,Yl,Y4,Ym,Y5,Yn,Qc,Yo,Jn,Yp,Yq,Y6,Yr,Qd,Jo,Jp,Y7,Ys,Yt,Yu,Yv,Yw,Yx,Jq,Jr,Qr,Js,Yy,Qe,Qs,List.set_cons_zero,List.set_cons_succ,List.map_cons,List.map_nil,List.replicate,List.cons_append,List.nil_append,List.length_cons,List.length_nil,Bool.false_eq_true,eq_self,if_true,if_false,Nat.zero_add,Jt,Yz,Ju,Jv,Jw,Y0,Jx,true_and,Bool.not_false]
    exact fin_any (fun n => nofun) hT
  | true =>
    obtain ⟨ds, rfl⟩ := isTup_of e
    obtain ⟨g, gw, gl⟩ := h.tup
    simp only [Y1,Qf,Qt,Qu,Qa,Qg,Qv,Qw,Qx,Qy,Qh,Qz,Jy,Qi,Qb,Qj,Qk,Q0,Jz,Q1,Q2,J0,Q3,Q4,J1,Ql,Qm,Qn,Q5,Qo,Q6,Qp,Q7,Q8,J2,Q9,Ja,J3,J4,J5,Jb,J6,J7,Jc,J8,J9,Jd,Je,Ya,Jf,Yb,Jg,Jh,Y8,Yc,Ji,Yd,Ye,Yf,Yg,Yh,Y2,Jj,Qq,Jk,Yi,Jl,Jm,Yj,Y3,Yk,Yl,Y4,Ym,Y5,Yn,Qc,Yo,Jn,Yp,Yq,Y6,Yr,Qd,Jo,Jp,Y7,Ys,Yt,Yu,Yv,Yw,Yx,Jq,Jr,Qr,Js,Yy,Qe,Qs,List.set_cons_zero,List.set_cons_succ,List.map_cons,List.map_nil,List.replicate,List.cons_append,List.nil_append,List.length_cons,List.length_nil,Bool.false_eq_true,eq_self,if_true,if_false,Nat.zero_add,Jt,Yz,Ju,Jv,Jw,Y0,Jx,true_and,Bool.not_true,len_tup,ne_int]
    by_cases h3 : ds.length = 3
    · obtain ⟨l, p, q, rfl⟩ := three_of h3
      rw [show (!(((([l, p, q] : List Dv).length : Nat) : Int) == 3)) = false from rfl]
      have tl' : Thg l := .of g gw (by simp)
      have tp : Thg p := .of g gw (by simp)
      have tq : Thg q := .of g gw (by simp)
      have i0 : ∀ s : Sto, gIx (.tup [l, p, q]) (.int 0) s = .ok l s := fun s => rfl
      have hT : T (.bl (isLotsD l && (isTupD p && (isTupD q && restD l p q)))) s := hT
      have ea : ([l, p, q] : List Dv).all isTupD = (isTupD l && (isTupD p && isTupD q)) := by simp [Bool.and_assoc]
      simp only [Y1,Qf,Qt,Qu,Qa,Qg,Qv,Qw,Qx,Qy,Qh,Qz,Jy,Qi,Qb,Qj,Qk,Q0,Jz,Q1,Q2,J0,Q3,Q4,J1,Ql,Qm,Qn,Q5,Qo,Q6,Qp,Q7,Q8,J2,Q9,Ja,J3,J4,J5,Jb,J6,J7,Jc,J8,J9,Jd,Je,Ya,Jf,Yb,Jg,Jh,Y8,Yc,Ji,Yd,Ye,Yf,Yg,Yh,Y2,Jj,Qq,Jk,Yi,Jl,Jm,Yj,Y3,Yk,Yl,Y4,Ym,Y5,Yn,Qc,Yo,Jn,Yp,Yq,Y6,Yr,Qd,Jo,Jp,Y7,Ys,Yt,Yu,Yv,Yw,Yx,Jq,Jr,Qr,Js,Yy,Qe,Qs,List.set_cons_zero,List.set_cons_succ,List.map_cons,List.map_nil,List.replicate,List.cons_append,List.nil_append,List.length_cons,List.length_nil,Bool.false_eq_true,eq_self,if_true,if_false,Nat.zero_add,Jt,Yz,Ju,Jv,Jw,Y0,Jx,true_and]
      refine cnt25a_spec hba h (fun e1 => ?_) fun e1 => ?_
      · rw [ea, Bool.and_eq_true, Bool.and_eq_true] at e1
        obtain ⟨el, ep, eq⟩ := e1
        obtain ⟨ls, rfl⟩ := isTup_of el
        obtain ⟨ps, rfl⟩ := isTup_of ep
        obtain ⟨qs, rfl⟩ := isTup_of eq
        obtain ⟨_, _, gll⟩ := tl'.tup
        have hT : T (.bl ((ls.all isWordD && (decide (1 < ls.length) && (match strs? ls with | some zs => decide zs.Nodup | none => false))) && (true && (true && restD (.tup ls) (.tup ps) (.tup qs))))) s := hT
        simp only [Y1,Qf,Qt,Qu,Qa,Qg,Qv,Qw,Qx,Qy,Qh,Qz,Jy,Qi,Qb,Qj,Qk,Q0,Jz,Q1,Q2,J0,Q3,Q4,J1,Ql,Qm,Qn,Q5,Qo,Q6,Qp,Q7,Q8,J2,Q9,Ja,J3,J4,J5,Jb,J6,J7,Jc,J8,J9,Jd,Je,Ya,Jf,Yb,Jg,Jh,Y8,Yc,Ji,Yd,Ye,Yf,Yg,Yh,Y2,Jj,Qq,Jk,Yi,Jl,Jm,Yj,Y3,Yk,Yl,Y4,Ym,Y5,Yn,Qc,Yo,Jn,Yp,Yq,Y6,Yr,Qd,Jo,Jp,Y7,Ys,Yt,Yu,Yv,Yw,Yx,Jq,Jr,Qr,Js,Yy,Qe,Qs,List.set_cons_zero,List.set_cons_succ,List.map_cons,List.map_nil,List.replicate,List.cons_append,List.nil_append,List.length_cons,List.length_nil,Bool.false_eq_true,eq_self,if_true,if_false,Nat.zero_add,Jt,Yz,Ju,Jv,Jw,Y0,Jx,true_and,i0]
        refine cnt25b_spec hbb hw tl' (fun e2 => ?_) fun e2 => ?_
        · rw [Bool.and_eq_true] at e2
          obtain ⟨zs, rfl⟩ := words_dec e2.2
          rw [e2.2, strs?_map, restD_t, decide_eq_true (show 1 < (zs.map Dv.str).length from of_decide_eq_true e2.1)] at hT
          have hT : T (.bl ((true && (true && decide zs.Nodup)) && (true && (true && (ps.all (pileD zs) && qs.all (doubtD zs)))))) s := hT
          rw [List.length_map] at gll
          simp only [Y1,Qf,Qt,Qu,Qa,Qg,Qv,Qw,Qx,Qy,Qh,Qz,Jy,Qi,Qb,Qj,Qk,Q0,Jz,Q1,Q2,J0,Q3,Q4,J1,Ql,Qm,Qn,Q5,Qo,Q6,Qp,Q7,Q8,J2,Q9,Ja,J3,J4,J5,Jb,J6,J7,Jc,J8,J9,Jd,Je,Ya,Jf,Yb,Jg,Jh,Y8,Yc,Ji,Yd,Ye,Yf,Yg,Yh,Y2,Jj,Qq,Jk,Yi,Jl,Jm,Yj,Y3,Yk,Yl,Y4,Ym,Y5,Yn,Qc,Yo,Jn,Yp,Yq,Y6,Yr,Qd,Jo,Jp,Y7,Ys,Yt,Yu,Yv,Yw,Yx,Jq,Jr,Qr,Js,Yy,Qe,Qs,List.set_cons_zero,List.set_cons_succ,List.map_cons,List.map_nil,List.replicate,List.cons_append,List.nil_append,List.length_cons,List.length_nil,Bool.false_eq_true,eq_self,if_true,if_false,Nat.zero_add,Jt,Yz,Ju,Jv,Jw,Y0,Jx,true_and]
          refine cnt25c_spec hbc gll (fun e3 => ?_) fun e3 => ?_
          · rw [e3] at hT
            simp only [Y1,Qf,Qt,Qu,Qa,Qg,Qv,Qw,Qx,Qy,Qh,Qz,Jy,Qi,Qb,Qj,Qk,Q0,Jz,Q1,Q2,J0,Q3,Q4,J1,Ql,Qm,Qn,Q5,Qo,Q6,Qp,Q7,Q8,J2,Q9,Ja,J3,J4,J5,Jb,J6,J7,Jc,J8,J9,Jd,Je,Ya,Jf,Yb,Jg,Jh,Y8,Yc,Ji,Yd,Ye,Yf,Yg,Yh,Y2,Jj,Qq,Jk,Yi,Jl,Jm,Yj,Y3,Yk,Yl,Y4,Ym,Y5,Yn,Qc,Yo,Jn,Yp,Yq,Y6,Yr,Qd,Jo,Jp,Y7,Ys,Yt,Yu,Yv,Yw,Yx,Jq,Jr,Qr,Js,Yy,Qe,Qs,List.set_cons_zero,List.set_cons_succ,List.map_cons,List.map_nil,List.replicate,List.cons_append,List.nil_append,List.length_cons,List.length_nil,Bool.false_eq_true,eq_self,if_true,if_false,Nat.zero_add,Jt,Yz,Ju,Jv,Jw,Y0,Jx,true_and]
            refine cnt25d_spec hbd hp tp (fun e4 => ?_) fun e4 => ?_
            · rw [e4] at hT
              simp only [Y1,Qf,Qt,Qu,Qa,Qg,Qv,Qw,Qx,Qy,Qh,Qz,Jy,Qi,Qb,Qj,Qk,Q0,Jz,Q1,Q2,J0,Q3,Q4,J1,Ql,Qm,Qn,Q5,Qo,Q6,Qp,Q7,Q8,J2,Q9,Ja,J3,J4,J5,Jb,J6,J7,Jc,J8,J9,Jd,Je,Ya,Jf,Yb,Jg,Jh,Y8,Yc,Ji,Yd,Ye,Yf,Yg,Yh,Y2,Jj,Qq,Jk,Yi,Jl,Jm,Yj,Y3,Yk,Yl,Y4,Ym,Y5,Yn,Qc,Yo,Jn,Yp,Yq,Y6,Yr,Qd,Jo,Jp,Y7,Ys,Yt,Yu,Yv,Yw,Yx,Jq,Jr,Qr,Js,Yy,Qe,Qs,List.set_cons_zero,List.set_cons_succ,List.map_cons,List.map_nil,List.replicate,List.cons_append,List.nil_append,List.length_cons,List.length_nil,Bool.false_eq_true,eq_self,if_true,if_false,Nat.zero_add,Jt,Yz,Ju,Jv,Jw,Y0,Jx,true_and]
              refine cnt25e_spec hbe hr tq ?_
              simp only [Y1,Qf,Qt,Qu,Qa,Qg,Qv,Qw,Qx,Qy,Qh,Qz,Jy,Qi,Qb,Qj,Qk,Q0,Jz,Q1,Q2,J0,Q3,Q4,J1,Ql,Qm,Qn,Q5,Qo,Q6,Qp,Q7,Q8,J2,Q9,Ja,J3,J4,J5,Jb,J6,J7,Jc,J8,J9,Jd,Je,Ya,Jf,Yb,Jg,Jh,Y8,Yc,Ji,Yd,Ye,Yf,Yg,Yh,Y2,Jj,Qq,Jk,Yi,Jl,Jm,Yj,Y3,Yk,Yl,Y4,Ym,Y5,Yn,Qc,Yo,Jn,Yp,Yq,Y6,Yr,Qd,Jo,Jp,Y7,Ys,Yt,Yu,Yv,Yw,Yx,Jq,Jr,Qr,Js,Yy,Qe,Qs,List.set_cons_zero,List.set_cons_succ,List.map_cons,List.map_nil,List.replicate,List.cons_append,List.nil_append,List.length_cons,List.length_nil,Bool.false_eq_true,eq_self,if_true,if_false,Nat.zero_add,Jt,Yz,Ju,Jv,Jw,Y0,Jx,true_and]
              exact fin_any (fun n => nofun) hT
            · rw [e4] at hT
              simp only [Y1,Qf,Qt,Qu,Qa,Qg,Qv,Qw,Qx,Qy,Qh,Qz,Jy,Qi,Qb,Qj,Qk,Q0,Jz,Q1,Q2,J0,Q3,Q4,J1,Ql,Qm,Qn,Q5,Qo,Q6,Qp,Q7,Q8,J2,Q9,Ja,J3,J4,J5,Jb,J6,J7,Jc,J8,J9,Jd,Je,Ya,Jf,Yb,Jg,Jh,Y8,Yc,Ji,Yd,Ye,Yf,Yg,Yh,Y2,Jj,Qq,Jk,Yi,Jl,Jm,Yj,Y3,Yk,Yl,Y4,Ym,Y5,Yn,Qc,Yo,Jn,Yp,Yq,Y6,Yr,Qd,Jo,Jp,Y7,Ys,Yt,Yu,Yv,Yw,Yx,Jq,Jr,Qr,Js,Yy,Qe,Qs,List.set_cons_zero,List.set_cons_succ,List.map_cons,List.map_nil,List.replicate,List.cons_append,List.nil_append,List.length_cons,List.length_nil,Bool.false_eq_true,eq_self,if_true,if_false,Nat.zero_add,Jt,Yz,Ju,Jv,Jw,Y0,Jx,true_and]
              exact fin_any (fun n => nofun) hT
          · rw [e3] at hT
            simp only [Y1,Qf,Qt,Qu,Qa,Qg,Qv,Qw,Qx,Qy,Qh,Qz,Jy,Qi,Qb,Qj,Qk,Q0,Jz,Q1,Q2,J0,Q3,Q4,J1,Ql,Qm,Qn,Q5,Qo,Q6,Qp,Q7,Q8,J2,Q9,Ja,J3,J4,J5,Jb,J6,J7,Jc,J8,J9,Jd,Je,Ya,Jf,Yb,Jg,Jh,Y8,Yc,Ji,Yd,Ye,Yf,Yg,Yh,Y2,Jj,Qq,Jk,Yi,Jl,Jm,Yj,Y3,Yk,Yl,Y4,Ym,Y5,Yn,Qc,Yo,Jn,Yp,Yq,Y6,Yr,Qd,Jo,Jp,Y7,Ys,Yt,Yu,Yv,Yw,Yx,Jq,Jr,Qr,Js,Yy,Qe,Qs,List.set_cons_zero,List.set_cons_succ,List.map_cons,List.map_nil,List.replicate,List.cons_append,List.nil_append,List.length_cons,List.length_nil,Bool.false_eq_true,eq_self,if_true,if_false,Nat.zero_add,Jt,Yz,Ju,Jv,Jw,Y0,Jx,true_and]
            exact fin_any (fun n => nofun) hT
        · have : (ls.all isWordD && (decide (1 < ls.length) && (match strs? ls with | some zs => decide zs.Nodup | none => false))) = false := by
            rw [Bool.and_comm] at e2
            rw [← Bool.and_assoc, show decide (1 < ls.length) = decide (2 ≤ ls.length) from rfl, e2, Bool.false_and]
          rw [this] at hT
          simp only [Y1,Qf,Qt,Qu,Qa,Qg,Qv,Qw,Qx,Qy,Qh,Qz,Jy,Qi,Qb,Qj,Qk,Q0,Jz,Q1,Q2,J0,Q3,Q4,J1,Ql,Qm,Qn,Q5,Qo,Q6,Qp,Q7,Q8,J2,Q9,Ja,J3,J4,J5,Jb,J6,J7,Jc,J8,J9,Jd,Je,Ya,Jf,Yb,Jg,Jh,Y8,Yc,Ji,Yd,Ye,Yf,Yg,Yh,Y2,Jj,Qq,Jk,Yi,Jl,Jm,Yj,Y3,Yk,Yl,Y4,Ym,Y5,Yn,Qc,Yo,Jn,Yp,Yq,Y6,Yr,Qd,Jo,Jp,Y7,Ys,Yt,Yu,Yv,Yw,Yx,Jq,Jr,Qr,Js,Yy,Qe,Qs,List.set_cons_zero,List.set_cons_succ,List.map_cons,List.map_nil,List.replicate,List.cons_append,List.nil_append,List.length_cons,List.length_nil,Bool.false_eq_true,eq_self,if_true,if_false,Nat.zero_add,Jt,Yz,Ju,Jv,Jw,Y0,Jx,true_and]
          exact fin_any (fun n => nofun) hT
      · rw [ea] at e1
        have : (isLotsD l && (isTupD p && (isTupD q && restD l p q))) = false := by
          cases h1 : isTupD l with
          | false => rw [(words_notT h1).2.1]; rfl
          | true =>
            rw [h1, Bool.true_and] at e1
            rw [← Bool.and_assoc (isTupD p), e1, Bool.false_and, Bool.and_false]
        rw [this] at hT
        simp only [Y1,Qf,Qt,Qu,Qa,Qg,Qv,Qw,Qx,Qy,Qh,Qz,Jy,Qi,Qb,Qj,Qk,Q0,Jz,Q1,Q2,J0,Q3,Q4,J1,Ql,Qm,Qn,Q5,Qo,Q6,Qp,Q7,Q8,J2,Q9,Ja,J3,J4,J5,Jb,J6,J7,Jc,J8,J9,Jd,Je,Ya,Jf,Yb,Jg,Jh,Y8,Yc,Ji,Yd,Ye,Yf,Yg,Yh,Y2,Jj,Qq,Jk,Yi,Jl,Jm,Yj,Y3,Yk,Yl,Y4,Ym,Y5,Yn,Qc,Yo,Jn,Yp,Yq,Y6,Yr,Qd,Jo,Jp,Y7,Ys,Yt,Yu,Yv,Yw,Yx,Jq,Jr,Qr,Js,Yy,Qe,Qs,List.set_cons_zero,List.set_cons_succ,List.map_cons,List.map_nil,List.replicate,List.cons_append,List.nil_append,List.length_cons,List.length_nil,Bool.false_eq_true,eq_self,if_true,if_false,Nat.zero_add,Jt,Yz,Ju,Jv,Jw,Y0,Jx,true_and]
        exact fin_any (fun n => nofun) hT
    · rw [show (!((ds.length : Int) == 3)) = true by
        rw [Bool.not_eq_true', beq_eq_false_iff_ne]; omega]
      rw [count_not3 h3] at hT
      simp only [Y1,Qf,Qt,Qu,Qa,Qg,Qv,Qw,Qx,Qy,Qh,Qz,Jy,Qi,Qb,Qj,Qk,Q0,Jz,Q1,Q2,J0,Q3,Q4,J1,Ql,Qm,Qn,Q5,Qo,Q6,Qp,Q7,Q8,J2,Q9,Ja,J3,J4,J5,Jb,J6,J7,Jc,J8,J9,Jd,Je,Ya,Jf,Yb,Jg,Jh,Y8,Yc,Ji,Yd,Ye,Yf,Yg,Yh,Y2,Jj,Qq,Jk,Yi,Jl,Jm,Yj,Y3,Yk,Yl,Y4,Ym,Y5,Yn,Qc,Yo,Jn,Yp,Yq,Y6,Yr,Qd,Jo,Jp,Y7,Ys,Yt,Yu,Yv,Yw,Yx,Jq,Jr,Qr,Js,Yy,Qe,Qs,List.set_cons_zero,List.set_cons_succ,List.map_cons,List.map_nil,List.replicate,List.cons_append,List.nil_append,List.length_cons,List.length_nil,Bool.false_eq_true,eq_self,if_true,if_false,Nat.zero_add,Jt,Yz,Ju,Jv,Jw,Y0,Jx,true_and]
      exact fin_any (fun n => nofun) hT
end Z

namespace Z
open PySem PySem.Spec L2

/-! ### a tally drawn, great lots -/
def bTalT (φt : Phi) : Fn Ct :=
  (fSeq (fSet 4 (fBin gAdd (fBin gPow (fC (.int 10)) (fC (.int 49))) (fCall φt (fCons (fVar 0) (fCons (fC (.int 2)) (fNil))))))
  (fDrop (fMt isL gAppend (fVar 2) (fCons (fBin gIx (fVal (fLst (fCons (fC (.int 0)) (fCons (fC (.int 3)) (fCons (fCall φt (fCons (fVar 0) (fCons (fC (.int 5)) (fNil)))) (fCons (fCall φt (fCons (fVar 0) (fCons (fBin gPow (fC (.int 10)) (fC (.int 8))) (fNil)))) (fCons (fVar 4) (fNil)))))))) (fCall φt (fCons (fVar 0) (fCons (fC (.int 5)) (fNil))))) (fNil)))))
def bTallyT0 (b : Fn Ct) : Fn Ct :=
  fSeq (fSet 2 (fNew (fLst (fNil))))
  (fSeq (fFor (fRng1 (fCons (fCall gLen (fCons (fVar 1) (fNil))) (fNil))) (gNm 3) b)
  (fRet (fCall gTuple (fCons (fVar 2) (fNil)))))
def TallyT (φ : Phi) : Prop := ∀ (t : Tap) (r : Sto) (lots : List Str), t.Wf → t.calls + 1000 ≤ 1000000 → lots.length ≤ 10 → Fl r → OkE nX (φ [.loc 0, .tup (lots.map .str)] (tapOb t :: r)) fun d s' => ∃ (zs : List Int) (t' : Tap), d = .tup (zs.map .int) ∧ zs.length = lots.length ∧ (∀ z ∈ zs, z.natAbs ≤ 10 ^ 50) ∧ s' = tapOb t' :: r ∧ t'.Wf ∧ t.calls ≤ t'.calls ∧ t'.calls ≤ t.calls + 40
def bTallyT (φt : Phi) : Fn Ct := bTallyT0 (bTalT φt)
/-- two signs each -/
def Two2 (gz : List Str) : Prop := gz.length ≤ 60 ∧ ∀ z ∈ gz, PyData.strOk z = true ∧ z.cps.size = 2
def preS (x z : Str) : List Str := z.cps.toList.map fun c => x ++ ⟨#[c]⟩
theorem preS_ok {x z : Str} (hx : PyData.strOk x = true) (hx1 : x.cps.size = 1) (hz : PyData.strOk z = true) : ∀ y ∈ preS x z, PyData.strOk y = true ∧ y.cps.size = 2 := by
  intro y hy
  obtain ⟨c, hc, rfl⟩ := List.mem_map.mp hy
  obtain ⟨h1, h2⟩ := app_ok hx (strOk_char hz hc)
  exact ⟨h1, by rw [h2, hx1]; rfl⟩
theorem preS_len {x z : Str} : (preS x z).length = z.cps.size := by unfold preS; rw [List.length_map, Array.length_toList]
theorem pre_pick {x z : Str} (hx1 : x.cps.size = 1) {own : List Nat} {i : Nat} {env : En} {s : Sto} {L : List Dv → Sto → Prop} (he : ∀ d : Dv, fVar i ((wipeZ env own).set i (some d)) s = .ok d s) (hL : L ((preS x z).map .str) s) : OkE nX (lcZ noChk own (gNm i) fYes (fBin gAdd (fC (.str x)) (fVar i)) (charsD z) env s) L := by
  refine ok_pick (xs := z.cps.toList) (enc := fun c => Dv.str ⟨#[c]⟩) (p := fun _ => true) (f := fun c => Dv.str (x ++ ⟨#[c]⟩)) (fun c hc => ?_) ?_
  · simp only [Y1,Qf,Qt,Qu,Qa,Qg,Qv,Qw,Qx,Qy,Qh,Qz,Jy,Qi,Qb,Qj,Qk,Q0,Jz,Q1,Q2,J0,Q3,Q4,J1,Ql,Qm,Qn,Q5,Qo,Q6,Qp,Q7,Q8,J2,Q9,Ja,J3,J4,J5,Jb,J6,J7,Jc,J8,J9,Jd,Je,Ya,Jf,Yb,Jg,Jh,Y8,Yc,Ji,Yd,Ye,Yf,Yg,Yh,Y2,Jj,Qq,Jk,Yi,Jl,Jm,Yj,Y3,Yk,Yl,Y4,Ym,Y5,Yn,Qc,Yo,Jn,Yp,Yq,Y6,Yr,Qd,Jo,Jp,Y7,Ys,Yt,Yu,Yv,Yw,Yx,Jq,Jr,Qr,Js,Yy,Qe,Qs,List.set_cons_zero,List.set_cons_succ,List.map_cons,List.map_nil,List.replicate,List.cons_append,List.nil_append,List.length_cons,List.length_nil,Bool.false_eq_true,eq_self,if_true,if_false,Nat.zero_add,Jt,Yz,Ju,Jv,Jw,Y0,Jx,true_and]
    refine fun _ => ?_
    rw [he, Y1]
    simp only [Y1,Qf,Qt,Qu,Qa,Qg,Qv,Qw,Qx,Qy,Qh,Qz,Jy,Qi,Qb,Qj,Qk,Q0,Jz,Q1,Q2,J0,Q3,Q4,J1,Ql,Qm,Qn,Q5,Qo,Q6,Qp,Q7,Q8,J2,Q9,Ja,J3,J4,J5,Jb,J6,J7,Jc,J8,J9,Jd,Je,Ya,Jf,Yb,Jg,Jh,Y8,Yc,Ji,Yd,Ye,Yf,Yg,Yh,Y2,Jj,Qq,Jk,Yi,Jl,Jm,Yj,Y3,Yk,Yl,Y4,Ym,Y5,Yn,Qc,Yo,Jn,Yp,Yq,Y6,Yr,Qd,Jo,Jp,Y7,Ys,Yt,Yu,Yv,Yw,Yx,Jq,Jr,Qr,Js,Yy,Qe,Qs,List.set_cons_zero,List.set_cons_succ,List.map_cons,List.map_nil,List.replicate,List.cons_append,List.nil_append,List.length_cons,List.length_nil,Bool.false_eq_true,eq_self,if_true,if_false,Nat.zero_add,Jt,Yz,Ju,Jv,Jw,Y0,Jx,true_and]
    rw [add_str (by rw [lenS hx1, lenS (n := 1) rfl]; decide), Y1]
    exact ⟨rfl, rfl⟩
  · rw [filter_yes]
    rw [show (z.cps.toList.map fun c => Dv.str (x ++ ⟨#[c]⟩)) = (preS x z).map .str by unfold preS; rw [List.map_map]; rfl]
    exact hL
end Z

namespace Z
open PySem PySem.Spec L2

/-! ### the things asked about -/
def F9 (d : Dv) : Prop := Md (10 ^ 50) 101 3 3000 d ∧ tl d ≤ 60
def FF (d : Dv) : Prop := Md (10 ^ 50 + 2) 913 7 28600 d ∧ tl d ≤ 600
theorem F9.ff {d : Dv} (h : F9 d) : FF d := ⟨h.1.up (by omega) (by omega) (by omega) (by omega), by have := h.2; omega⟩
theorem FF.below {d : Dv} (h : FF d) (j : Nat) : below j d = true := gp_below (by decide +kernel) (by decide) j h.1.g
theorem FF.fl {ds : List Dv} (h : ∀ d ∈ ds, FF d) {r : Sto} (hf : Fl r) {o : Ob} (ho : Fl [o]) : Fl (r ++ [o, .lst ds]) := by
  have e : r ++ [o, Ob.lst ds] = (r ++ [o]) ++ [.lst ds] := by simp
  rw [e]
  exact (hf.app ho).app (.one (belows_all fun d hd => (h d hd).below _))
theorem FF.thg {d : Dv} (h : FF d) : Thg d := ⟨gb_up (gp_gb (by decide +kernel) (by decide) h.1.g) (by decide), by have := h.1.w; omega⟩
def Wd8 (z : Str) : Prop := PyData.strOk z = true ∧ 1 ≤ z.cps.size ∧ z.cps.size ≤ 8
def bLp3 (φt φb φo : Phi) : Fn Ct :=
  (fSeq (fSet 9 (fCall φb (fCons (fVar 0) (fCons (fBin gIx (fVar 5) (fCall φt (fCons (fVar 0) (fCons (fC (.int 9)) (fNil))))) (fCons (fC (.int 3)) (fNil))))))
  (fDrop (fExtend (fVar 5) (fLst (fCons (fVar 9) (fCons (fCall φb (fCons (fVar 0) (fCons (fVar 9) (fCons (fC (.int 3)) (fNil))))) (fCons (fCall φo (fCons (fVar 0) (fNil))) (fNil))))))))
def bLp2 (φt φb φo : Phi) : Fn Ct :=
  (fSeq (fDrop (fMt isL gAppend (fVar 5) (fCons (fBin gAdd (fBin gAdd (fSl (fVar 7) (fNoPart) (fPart (fVar 8))) (fBin gIx (fVal (fLst (fCons (fC (.str (Str.ofString "A"))) (fCons (fC (.str (Str.ofString " "))) (fCons (fC (.str (Str.ofString "-"))) (fCons (fC (.str (Str.ofString "{"))) (fCons (fC (.str (Str.ofString "0"))) (fCons (fC (.str (Str.ofString "z"))) (fCons (fC (.str (Str.ofString ""))) (fNil)))))))))) (fCall φt (fCons (fVar 0) (fCons (fC (.int 7)) (fNil)))))) (fSl (fVar 7) (fPart (fVar 8)) (fNoPart))) (fNil))))
  (bLp3 φt φb φo))
def bLpT (φt φb φo : Phi) : Fn Ct :=
  (fSeq (fSet 7 (fBin gIx (fVar 1) (fCall φt (fCons (fVar 0) (fCons (fCall gLen (fCons (fVar 1) (fNil))) (fNil))))))
  (fSeq (fSet 8 (fCall φt (fCons (fVar 0) (fCons (fCall gLen (fCons (fVar 7) (fNil))) (fNil)))))
  (bLp2 φt φb φo)))
theorem sl_str {z : Str} {lo hi : Option Int} {s : Sto} (h : z.length ≤ 16777216) : gSl (.str z) lo hi s = .ok (.str (cutS z lo hi)) s := by
  show Rs.iff (decide (z.length ≤ 16777216)) _ = _
  rw [decide_eq_true h]; rfl
def sevenS : List Str := [Str.ofString "A", Str.ofString " ", Str.ofString "-", Str.ofString "{", Str.ofString "0", Str.ofString "z", Str.ofString ""]
end Z

namespace Z
open PySem PySem.Spec L2

/-! ### the list of things -/
def bThF (bl : Fn Ct) : Fn Ct := (fSeq (fFor (fRng1 (fCons (fC (.int 10)) (fNil))) (gNm 6) bl) (fRet (fVar 5)))
def bTh5 (bF : Fn Ct) : Fn Ct :=
  (fSeq (fSet 5 (fNew (fCatL (fVar 5) (fVal (fLst (fCons (fBin gAdd (fSl (fVar 3) (fNoPart) (fPart (fUn gNeg (fC (.int 1))))) (fTup (fCons (fUn gNeg (fC (.int 1))) (fNil)))) (fCons (fBin gAdd (fTup (fCons (fC (.bl true)) (fNil))) (fSl (fVar 3) (fPart (fC (.int 1))) (fNoPart))) (fCons (fVal (fCallL gList (fCons (fVar 3) (fNil)))) (fCons (fBin gTimes (fTup (fCons (fBin gPow (fC (.int 10)) (fC (.int 50))) (fNil))) (fCall gLen (fCons (fVar 1) (fNil)))) (fCons (fBin gAdd (fBin gIx (fVar 1) (fC (.int 0))) (fC (.str (Str.ofString "z")))) (fNil)))))))))))
  bF)
def bTh4 (b5 : Fn Ct) : Fn Ct :=
  (fSeq (fSet 5 (fNew (fLst (fCons (fVar 1) (fCons (fSl (fVar 1) (fNoPart) (fPart (fC (.int 1)))) (fCons (fBin gAdd (fVar 1) (fSl (fVar 1) (fNoPart) (fPart (fC (.int 1))))) (fCons (fVal (fCallL gList (fCons (fVar 1) (fNil)))) (fCons (fVar 4) (fCons (fBin gAdd (fVar 4) (fSl (fVar 4) (fNoPart) (fPart (fC (.int 1))))) (fCons (fVar 3) (fCons (fSl (fVar 3) (fPart (fC (.int 1))) (fNoPart)) (fCons (fBin gAdd (fVar 3) (fTup (fCons (fC (.int 0)) (fNil)))) (fNil)))))))))))))
  b5)
def ThQ (lo : Int) (r : Sto) (d : Dv) (s' : Sto) : Prop := ∃ (ds : List Dv) (t' : Tap), d = .ls ds ∧ (∀ d ∈ ds, FF d) ∧ ds.length ≤ 1000 ∧ s' = tapOb t' :: r ∧ t'.Wf ∧ lo ≤ t'.calls ∧ t'.calls ≤ lo + 700
end Z

namespace Z
open PySem PySem.Spec L2

/-! ### great lots and their tallies -/
def letQ : Str := Str.ofString "abcdefghijklmnopqrstuvwxyz"
theorem letQ_ok : PyData.strOk letQ = true ∧ letQ.cps.size = 26 := by decide +kernel
theorem nm_ok : (PyData.strOk (Str.ofString "n") = true ∧ (Str.ofString "n").cps.size = 1) ∧ PyData.strOk (Str.ofString "m") = true ∧ (Str.ofString "m").cps.size = 1 := by decide +kernel
def fGreat (iz i : Nat) : Fn Dv := (fCall gTuple (fCons (fVal (fCatL (fVal (fLc (fSrcS (fVar iz)) [i] (gNm i) (fYes) (fBin gAdd (fC (.str (Str.ofString "n"))) (fVar i)))) (fVal (fLc (fSrcS (fSl (fVar iz) (fNoPart) (fPart (fC (.int 14))))) [i] (gNm i) (fYes) (fBin gAdd (fC (.str (Str.ofString "m"))) (fVar i)))))) (fNil)))
def bThings (φl : Phi) (b4 : Fn Ct) : Fn Ct :=
  fSeq (fSet 2 (fC (.str letQ)))
  (fSeq (fSet 3 (fCall φl (fCons (fVar 0) (fCons (fVar 1) (fNil)))))
  (fSeq (fSet 4 (fGreat 2 10))
  b4))
def ThingsT (φ : Phi) : Prop := ∀ (t : Tap) (r : Sto) (lots : List Str), t.Wf → t.calls + 2000 ≤ 1000000 → 2 ≤ lots.length → lots.length ≤ 6 → (∀ z ∈ lots, Wd8 z) → Fl r → OkE nX (φ [.loc 0, .tup (lots.map .str)] (tapOb t :: r)) (ThQ t.calls r)
/-! ### tallies of forty -/
def bAskR (φp φq : Phi) : Fn Ct := (fIfS (fTest (fBin gNe (fCall gRepr (fCons (fCall φp (fCons (fVar 2) (fCons (fVar 4) (fNil)))) (fNil))) (fCall gRepr (fCons (fCall φq (fCons (fVar 2) (fCons (fVar 4) (fNil)))) (fNil))))) (fRet (fC (.bl false))) (fNop))
def fRight (φt : Phi) : Fn Dv := (fCall gTuple (fCons (fVal (fLc (fRng1 (fCons (fC (.int 40)) (fNil))) [5] (gNm 5) (fYes) (fCall φt (fCons (fVar 0) (fCons (fC (.int 9)) (fNil)))))) (fNil)))
def bGrR2 (bA : Fn Ct) : Fn Ct :=
  (fSeq (fFor (fSrc (fTup (fCons (fVar 3) (fCons (fSl (fVar 3) (fPart (fC (.int 1))) (fNoPart)) (fCons (fBin gAdd (fVar 3) (fTup (fCons (fC (.int 0)) (fNil)))) (fCons (fBin gAdd (fSl (fVar 3) (fNoPart) (fPart (fUn gNeg (fC (.int 1))))) (fTup (fCons (fUn gNeg (fC (.int 1))) (fNil)))) (fCons (fBin gAdd (fSl (fVar 3) (fNoPart) (fPart (fC (.int 39)))) (fTup (fCons (fC (.bl true)) (fNil)))) (fCons (fRevT (fVar 3)) (fNil))))))))) (gNm 4) bA)
  (fRet (fC (.bl true))))
def bGrR (φt : Phi) (b2 : Fn Ct) : Fn Ct :=
  fSeq (fSet 1 (fC (.str letQ)))
  (fSeq (fSet 2 (fGreat 1 6))
  (fSeq (fSet 3 (fRight φt))
  b2))
end Z

namespace Z
open PySem PySem.Spec L2

/-! ### things of bounded depth, weight and width -/
structure Bd (n w : Nat) (d : Dv) : Prop where
  g : gb n d = true
  w : wb d ≤ w
  t : tn d ≤ 4000
theorem Bd.up {n w n2 w2 : Nat} {d : Dv} (h : Bd n w d) (h1 : n ≤ n2) (h2 : w ≤ w2) : Bd n2 w2 d := ⟨gb_up h.g h1, Nat.le_trans h.w h2, h.t⟩
theorem Bd.thg {n w : Nat} {d : Dv} (h : Bd n w d) (h1 : n ≤ 30) (h2 : w ≤ 160000) : Thg d := ⟨gb_up h.g h1, Nat.le_trans h.w h2⟩
theorem bd_str {z : Str} {k : Nat} (h : PyData.strOk z = true ∧ z.cps.size ≤ k) (hk : k ≤ 4096) : Bd 1 k (.str z) := ⟨gb_str.mpr ⟨h.1, by omega⟩, by simp only [wb]; exact h.2, by simp [tn]⟩
theorem bd_int {i : Int} (h : i.natAbs ≤ 10 ^ 50) : Bd 1 334 (.int i) := ⟨by
  simp only [gb, decide_eq_true_eq]
  exact Nat.lt_of_le_of_lt h (by decide +kernel), by simp [wb], by simp [tn]⟩
theorem bd_non : Bd 1 0 .non := ⟨rfl, by simp [wb], by simp [tn]⟩
theorem bd_bl {b : Bool} : Bd 1 0 (.bl b) := ⟨rfl, by simp [wb], by simp [tn]⟩
theorem wbs_leA {n : Nat} : ∀ {xs : List Dv}, (∀ x ∈ xs, wb x ≤ n) → wbs xs ≤ xs.length * (n + 1)
  | [], _ => by simp [wbs]
  | x :: xs, h => by
    have h1 := h x List.mem_cons_self
    have h2 := wbs_leA (xs := xs) fun y hy => h y (List.mem_cons_of_mem _ hy)
    simp only [wbs, List.length_cons, Nat.succ_mul]
    omega
theorem Bd.tup {n w m : Nat} {ds : List Dv} (h : ∀ e ∈ ds, Bd n w e) (hl : ds.length ≤ m) (hm : m ≤ 4000) : Bd (n + 1) (m * (w + 1)) (.tup ds) := by
  refine ⟨by rw [gb_tup]; exact gbs_all fun d hd => (h d hd).g, ?_, tn_tup.mpr ⟨by omega, fun e he => (h e he).t⟩⟩
  rw [wb_tup]
  have h1 := wbs_leA fun x hx => (h x hx).w
  exact Nat.le_trans h1 (Nat.mul_le_mul_right _ hl)
theorem Bd.ls {n w m : Nat} {ds : List Dv} (h : ∀ e ∈ ds, Bd n w e) (hl : ds.length ≤ m) : Bd (n + 1) (m * (w + 1)) (.ls ds) := by
  refine ⟨by rw [gb_ls]; exact gbs_all fun d hd => (h d hd).g, ?_, by simp [tn]⟩
  rw [wb_ls]
  have h1 := wbs_leA fun x hx => (h x hx).w
  exact Nat.le_trans h1 (Nat.mul_le_mul_right _ hl)
theorem bd_nil {n : Nat} : Bd (n + 1) 0 (.tup []) := ⟨by simp [gb, gbs], by simp [wb, wbs], by simp [tn, tns]⟩
theorem bd1 {n w : Nat} {a : Dv} (h : Bd n w a) : Bd (n + 1) (w + 1) (.tup [a]) := by
  have := Bd.tup (ds := [a]) (m := 1) (fun e he => by rw [List.mem_singleton.mp he]; exact h) (by simp) (by decide)
  exact this.up (Nat.le_refl _) (by omega)
theorem bd2 {n w1 w2 : Nat} {a b : Dv} (h1 : Bd n w1 a) (h2 : Bd n w2 b) : Bd (n + 1) (w1 + w2 + 2) (.tup [a, b]) := by
  refine ⟨by rw [gb_tup]; simp [gbs, h1.g, h2.g], ?_, tn_tup.mpr ⟨by simp, fun e he => ?_⟩⟩
  · have := h1.w
    have := h2.w
    simp only [wb, wbs]; omega
  · simp only [List.mem_cons, List.not_mem_nil, or_false] at he
    rcases he with rfl | rfl
    · exact h1.t
    · exact h2.t
theorem bd3 {n w1 w2 w3 : Nat} {a b c : Dv} (h1 : Bd n w1 a) (h2 : Bd n w2 b) (h3 : Bd n w3 c) : Bd (n + 1) (w1 + w2 + w3 + 3) (.tup [a, b, c]) := by
  refine ⟨by rw [gb_tup]; simp [gbs, h1.g, h2.g, h3.g], ?_, tn_tup.mpr ⟨by simp, fun e he => ?_⟩⟩
  · have := h1.w
    have := h2.w
    have := h3.w
    simp only [wb, wbs]; omega
  · simp only [List.mem_cons, List.not_mem_nil, or_false] at he
    rcases he with rfl | rfl | rfl
    · exact h1.t
    · exact h2.t
    · exact h3.t
theorem bd4 {n w1 w2 w3 w4 : Nat} {a b c d : Dv} (h1 : Bd n w1 a) (h2 : Bd n w2 b) (h3 : Bd n w3 c) (h4 : Bd n w4 d) : Bd (n + 1) (w1 + w2 + w3 + w4 + 4) (.tup [a, b, c, d]) := by
  refine ⟨by rw [gb_tup]; simp [gbs, h1.g, h2.g, h3.g, h4.g], ?_, tn_tup.mpr ⟨by simp, fun e he => ?_⟩⟩
  · have := h1.w
    have := h2.w
    have := h3.w
    have := h4.w
    simp only [wb, wbs]; omega
  · simp only [List.mem_cons, List.not_mem_nil, or_false] at he
    rcases he with rfl | rfl | rfl | rfl
    · exact h1.t
    · exact h2.t
    · exact h3.t
    · exact h4.t
theorem bd_strs {k m : Nat} {xs : List Str} (h : ∀ x ∈ xs, PyData.strOk x = true ∧ x.cps.size ≤ k) (hk : k ≤ 4096) (hl : xs.length ≤ m) (hm : m ≤ 4000) : Bd 2 (m * (k + 1)) (.tup (xs.map .str)) :=
  Bd.tup (fun e he => by
    obtain ⟨x, hx, rfl⟩ := List.mem_map.mp he
    exact bd_str (h x hx) hk) (by rw [List.length_map]; exact hl) hm
/-- a count of words, piles, doubts -/
theorem bd_cnt {w1 w2 w3 n : Nat} {a b c : Dv} (h1 : Bd n w1 a) (h2 : Bd n w2 b) (h3 : Bd n w3 c) (hn : n ≤ 29) (hw : w1 + w2 + w3 + 3 ≤ 160000) : Bd 30 160000 (.tup [a, b, c]) := (bd3 h1 h2 h3).up (by omega) hw
/-! ### slices of tuples of words -/
def cutX (xs : List Str) (lo hi : Option Int) : List Str := (xs.drop (HT.sIx xs.length 0 lo)).take (HT.sIx xs.length xs.length hi - HT.sIx xs.length 0 lo)
theorem cutX_map {xs : List Str} {lo hi : Option Int} : cutD (xs.map .str) lo hi = (cutX xs lo hi).map .str := by
  unfold cutD cutX
  rw [List.length_map, List.map_take, List.map_drop]
theorem cutX_mem {xs : List Str} {lo hi : Option Int} {x : Str} (h : x ∈ cutX xs lo hi) : x ∈ xs := List.mem_of_mem_drop (List.mem_of_mem_take h)
theorem cutX_len {xs : List Str} {lo hi : Option Int} : (cutX xs lo hi).length ≤ xs.length := by
  unfold cutX
  rw [List.length_take, List.length_drop]; omega
theorem slX {xs : List Str} {lo hi : Option Int} {s : Sto} : gSl (.tup (xs.map .str)) lo hi s = .ok (.tup ((cutX xs lo hi).map .str)) s := by
  rw [sl_any, cutX_map]
theorem addX {xs ys : List Str} {s : Sto} (h : xs.length + ys.length ≤ 16777216) : gAdd (.tup (xs.map .str)) (.tup (ys.map .str)) s = .ok (.tup ((xs ++ ys).map .str)) s := by
  rw [add_tupD (by rw [List.length_map, List.length_map]; exact h), List.map_append]
/-! ### forty names -/
theorem greatL40 {iz i : Nat} {env : En} {s : Sto} {T : Dv → Sto → Prop} (hz : ∀ s : Sto, fVar iz env s = .ok (.str letQ) s) (hi : ∀ (d : Dv) (s : Sto), fVar i ((wipeZ env [i]).set i (some d)) s = .ok d s) (hT : ∀ gz : List Str, Two2 gz → gz.length = 40 → T (.tup (gz.map .str)) s) : OkE nX (fGreat iz i env s) T := by
  obtain ⟨⟨n1, n2⟩, m1, m2⟩ := nm_ok
  obtain ⟨q1, q2⟩ := letQ_ok
  have q3 : (cutS letQ none (some 14)).cps.size = 14 := by decide +kernel
  unfold fGreat
  generalize Str.ofString "n" = sn at n1 n2
  generalize Str.ofString "m" = sm at m1 m2
  generalize letQ = zl at q1 q2 q3 hz
  have hzl : zl.length = 26 := q2
  obtain ⟨c1, c2⟩ := cutS_ok (lo := none) (hi := some 14) q1
  simp only [Y1,Qf,Qt,Qu,Qa,Qg,Qv,Qw,Qx,Qy,Qh,Qz,Jy,Qi,Qb,Qj,Qk,Q0,Jz,Q1,Q2,J0,Q3,Q4,J1,Ql,Qm,Qn,Q5,Qo,Q6,Qp,Q7,Q8,J2,Q9,Ja,J3,J4,J5,Jb,J6,J7,Jc,J8,J9,Jd,Je,Ya,Jf,Yb,Jg,Jh,Y8,Yc,Ji,Yd,Ye,Yf,Yg,Yh,Y2,Jj,Qq,Jk,Yi,Jl,Jm,Yj,Y3,Yk,Yl,Y4,Ym,Y5,Yn,Qc,Yo,Jn,Yp,Yq,Y6,Yr,Qd,Jo,Jp,Y7,Ys,Yt,Yu,Yv,Yw,Yx,Jq,Jr,Qr,Js,Yy,Qe,Qs,List.set_cons_zero,List.set_cons_succ,List.map_cons,List.map_nil,List.replicate,List.cons_append,List.nil_append,List.length_cons,List.length_nil,Bool.false_eq_true,eq_self,if_true,if_false,Nat.zero_add,Jt,Yz,Ju,Jv,Jw,Y0,Jx,true_and,ok_catL,kCat_ap,ok_srcS,hz,kSrcS_str]
  refine ⟨decide_eq_true (by simp only [charsD, List.length_map, Array.length_toList]; omega), ?_⟩
  refine pre_pick n2 (fun d => hi d s) ?_
  simp only [Y1,Qf,Qt,Qu,Qa,Qg,Qv,Qw,Qx,Qy,Qh,Qz,Jy,Qi,Qb,Qj,Qk,Q0,Jz,Q1,Q2,J0,Q3,Q4,J1,Ql,Qm,Qn,Q5,Qo,Q6,Qp,Q7,Q8,J2,Q9,Ja,J3,J4,J5,Jb,J6,J7,Jc,J8,J9,Jd,Je,Ya,Jf,Yb,Jg,Jh,Y8,Yc,Ji,Yd,Ye,Yf,Yg,Yh,Y2,Jj,Qq,Jk,Yi,Jl,Jm,Yj,Y3,Yk,Yl,Y4,Ym,Y5,Yn,Qc,Yo,Jn,Yp,Yq,Y6,Yr,Qd,Jo,Jp,Y7,Ys,Yt,Yu,Yv,Yw,Yx,Jq,Jr,Qr,Js,Yy,Qe,Qs,List.set_cons_zero,List.set_cons_succ,List.map_cons,List.map_nil,List.replicate,List.cons_append,List.nil_append,List.length_cons,List.length_nil,Bool.false_eq_true,eq_self,if_true,if_false,Nat.zero_add,Jt,Yz,Ju,Jv,Jw,Y0,Jx,true_and,kCat_ap,ok_srcS,hz]
  rw [sl_str (by omega), Y1]
  generalize cutS zl none (some 14) = zc at c1 c2 q3
  simp only [Y1,Qf,Qt,Qu,Qa,Qg,Qv,Qw,Qx,Qy,Qh,Qz,Jy,Qi,Qb,Qj,Qk,Q0,Jz,Q1,Q2,J0,Q3,Q4,J1,Ql,Qm,Qn,Q5,Qo,Q6,Qp,Q7,Q8,J2,Q9,Ja,J3,J4,J5,Jb,J6,J7,Jc,J8,J9,Jd,Je,Ya,Jf,Yb,Jg,Jh,Y8,Yc,Ji,Yd,Ye,Yf,Yg,Yh,Y2,Jj,Qq,Jk,Yi,Jl,Jm,Yj,Y3,Yk,Yl,Y4,Ym,Y5,Yn,Qc,Yo,Jn,Yp,Yq,Y6,Yr,Qd,Jo,Jp,Y7,Ys,Yt,Yu,Yv,Yw,Yx,Jq,Jr,Qr,Js,Yy,Qe,Qs,List.set_cons_zero,List.set_cons_succ,List.map_cons,List.map_nil,List.replicate,List.cons_append,List.nil_append,List.length_cons,List.length_nil,Bool.false_eq_true,eq_self,if_true,if_false,Nat.zero_add,Jt,Yz,Ju,Jv,Jw,Y0,Jx,true_and,kSrcS_str]
  refine ⟨decide_eq_true (by simp only [charsD, List.length_map, Array.length_toList]; omega), ?_⟩
  refine pre_pick m2 (fun d => hi d s) ?_
  have p1 := preS_len (x := sn) (z := zl)
  have p2 := preS_len (x := sm) (z := zc)
  simp only [Y1,Qf,Qt,Qu,Qa,Qg,Qv,Qw,Qx,Qy,Qh,Qz,Jy,Qi,Qb,Qj,Qk,Q0,Jz,Q1,Q2,J0,Q3,Q4,J1,Ql,Qm,Qn,Q5,Qo,Q6,Qp,Q7,Q8,J2,Q9,Ja,J3,J4,J5,Jb,J6,J7,Jc,J8,J9,Jd,Je,Ya,Jf,Yb,Jg,Jh,Y8,Yc,Ji,Yd,Ye,Yf,Yg,Yh,Y2,Jj,Qq,Jk,Yi,Jl,Jm,Yj,Y3,Yk,Yl,Y4,Ym,Y5,Yn,Qc,Yo,Jn,Yp,Yq,Y6,Yr,Qd,Jo,Jp,Y7,Ys,Yt,Yu,Yv,Yw,Yx,Jq,Jr,Qr,Js,Yy,Qe,Qs,List.set_cons_zero,List.set_cons_succ,List.map_cons,List.map_nil,List.replicate,List.cons_append,List.nil_append,List.length_cons,List.length_nil,Bool.false_eq_true,eq_self,if_true,if_false,Nat.zero_add,Jt,Yz,Ju,Jv,Jw,Y0,Jx,true_and]
  rw [kCat2_ls]
  refine ⟨decide_eq_true (by rw [List.length_map, List.length_map]; omega), ?_⟩
  simp only [Y1,Qf,Qt,Qu,Qa,Qg,Qv,Qw,Qx,Qy,Qh,Qz,Jy,Qi,Qb,Qj,Qk,Q0,Jz,Q1,Q2,J0,Q3,Q4,J1,Ql,Qm,Qn,Q5,Qo,Q6,Qp,Q7,Q8,J2,Q9,Ja,J3,J4,J5,Jb,J6,J7,Jc,J8,J9,Jd,Je,Ya,Jf,Yb,Jg,Jh,Y8,Yc,Ji,Yd,Ye,Yf,Yg,Yh,Y2,Jj,Qq,Jk,Yi,Jl,Jm,Yj,Y3,Yk,Yl,Y4,Ym,Y5,Yn,Qc,Yo,Jn,Yp,Yq,Y6,Yr,Qd,Jo,Jp,Y7,Ys,Yt,Yu,Yv,Yw,Yx,Jq,Jr,Qr,Js,Yy,Qe,Qs,List.set_cons_zero,List.set_cons_succ,List.map_cons,List.map_nil,List.replicate,List.cons_append,List.nil_append,List.length_cons,List.length_nil,Bool.false_eq_true,eq_self,if_true,if_false,Nat.zero_add,Jt,Yz,Ju,Jv,Jw,Y0,Jx,true_and,tuple_ls]
  have := hT (preS sn zl ++ preS sm zc) ⟨by rw [List.length_append]; omega, fun z hz => (List.mem_append.mp hz).elim (preS_ok n1 n2 q1 z) (preS_ok m1 m2 c1 z)⟩ (by rw [List.length_append]; omega)
  rw [List.map_append] at this
  exact this
end Z

namespace Z
open PySem PySem.Spec L2

/-! ### k05: counts of forty names -/
def kTailT (T : Dv → Sto → Prop) : Dv → Sto → Prop := fun d s => match d with | .tup ds => decide (2 ≤ ds.length) = true ∧ T (.tup (ds.reverse.take 2)) s | _ => False
theorem kTailT_tup {T : Dv → Sto → Prop} {ds : List Dv} {s : Sto} : kTailT T (.tup ds) s = (decide (2 ≤ ds.length) = true ∧ T (.tup (ds.reverse.take 2)) s) := rfl
theorem ok_tailT {f : Fn Dv} {env : En} {s : Sto} {T : Dv → Sto → Prop} : OkE nX (fTailT f env s) T ↔ OkE nX (f env s) (kTailT T) := by
  unfold fTailT; rw [ok_bind]
  cases f env s with
  | ok d s1 =>
    cases d with
    | tup ds => exact ok_iff
    | _ => exact Iff.rfl
  | _ => exact Iff.rfl
def bGr27d : Fn Ct := (fSet 4 (fVal (fLst (fCons (fTup (fCons (fVar 2) (fCons (fTup (fNil)) (fCons (fTup (fNil)) (fNil))))) (fCons (fTup (fCons (fRevT (fVar 2)) (fCons (fTup (fCons (fTup (fCons (fC (.str (Str.ofString "na"))) (fCons (fC (.int 5)) (fCons (fC (.int 1)) (fCons (fVar 3) (fNil)))))) (fNil))) (fCons (fTup (fCons (fVar 3) (fNil))) (fNil))))) (fCons (fTup (fCons (fBin gAdd (fVar 2) (fSl (fVar 2) (fNoPart) (fPart (fC (.int 1))))) (fCons (fTup (fNil)) (fCons (fTup (fNil)) (fNil))))) (fNil)))))))
def bGr27e : Fn Ct := (fSet 5 (fVal (fLst (fCons (fVar 3) (fCons (fBin gAdd (fSl (fVar 3) (fNoPart) (fPart (fUn gNeg (fC (.int 2))))) (fTailT (fVar 3))) (fCons (fBin gAdd (fVar 3) (fSl (fVar 3) (fPart (fUn gNeg (fC (.int 1)))) (fNoPart))) (fCons (fBin gAdd (fSl (fVar 3) (fNoPart) (fPart (fUn gNeg (fC (.int 1))))) (fTup (fCons (fC (.str (Str.ofString "q"))) (fNil)))) (fCons (fBin gAdd (fSl (fVar 3) (fNoPart) (fPart (fUn gNeg (fC (.int 1))))) (fTup (fCons (fC (.str (Str.ofString "na"))) (fNil)))) (fNil)))))))))
def bGr27f : Fn Ct := (fFor (fSrc (fVar 5)) (gNm 6) (fSet 4 (fVal (fCatL (fVar 4) (fVal (fLst (fCons (fTup (fCons (fVar 2) (fCons (fTup (fCons (fTup (fCons (fC (.str (Str.ofString "na"))) (fCons (fC (.int 5)) (fCons (fC (.int 1)) (fCons (fVar 6) (fNil)))))) (fNil))) (fCons (fTup (fNil)) (fNil))))) (fCons (fTup (fCons (fVar 2) (fCons (fTup (fNil)) (fCons (fTup (fCons (fVar 6) (fNil))) (fNil))))) (fNil)))))))))
def bGr27 (φt : Phi) (bd be bf : Fn Ct) : Fn Ct :=
  fSeq (fSet 1 (fC (.str letQ)))
  (fSeq (fSet 2 (fGreat 1 7))
  (fSeq (fSet 3 (fCall gTuple (fCons (fVal (fCallL gSorted (fCons (fSl (fVar 2) (fPart (fC (.int 1))) (fPart (fBin gAdd (fC (.int 5)) (fCall φt (fCons (fVar 0) (fCons (fC (.int 6)) (fNil))))))) (fNil)))) (fNil))))
  (fSeq bd (fSeq be (fSeq bf (fRet (fVar 4)))))))
def Wk (ws : List Str) : Prop := (∀ x ∈ ws, PyData.strOk x = true ∧ x.cps.size ≤ 8) ∧ ws.length ≤ 90
theorem Wk.bd {ws : List Str} (h : Wk ws) : Bd 2 810 (.tup (ws.map .str)) := bd_strs h.1 (by decide) h.2 (by decide)
theorem Wk.cut {ws : List Str} (h : Wk ws) (lo hi : Option Int) : Wk (cutX ws lo hi) := ⟨fun x hx => h.1 x (cutX_mem hx), Nat.le_trans cutX_len h.2⟩
theorem Wk.rev {ws : List Str} (h : Wk ws) : Wk ws.reverse := ⟨fun x hx => h.1 x (List.mem_reverse.mp hx), by rw [List.length_reverse]; exact h.2⟩
theorem na_ok : (PyData.strOk (Str.ofString "na") = true ∧ (Str.ofString "na").cps.size ≤ 8) ∧ PyData.strOk (Str.ofString "q") = true ∧ (Str.ofString "q").cps.size ≤ 8 := by decide +kernel
theorem pile_bd {z : Str} (hz : PyData.strOk z = true ∧ z.cps.size ≤ 8) {a b : Int} (ha : a.natAbs ≤ 10 ^ 50) (hb : b.natAbs ≤ 10 ^ 50) {n w : Nat} (hn : 1 ≤ n) {d : Dv} (hd : Bd n w d) : Bd (n + 1) (w + 680) (.tup [.str z, .int a, .int b, d]) :=
  (bd4 ((bd_str hz (by decide)).up hn (Nat.le_refl _)) ((bd_int ha).up hn (Nat.le_refl _)) ((bd_int hb).up hn (Nat.le_refl _)) hd).up (Nat.le_refl _) (by omega)
theorem gr27d_spec {b : Fn Ct} (hb : b = bGr27d) {gz os : List Str} (hg : Wk gz) (hgl : gz.length = 40) (ho : Wk os) {v0 v1 v4 v5 v6 v7 : Option Dv} {s : Sto} {R : Ct → Sto → Prop}
    (hR : ∀ ds : List Dv, (∀ e ∈ ds, Bd 30 160000 e) → ds.length = 3 → R (.next [v0, v1, some (.tup (gz.map .str)), some (.tup (os.map .str)), some (.ls ds), v5, v6, v7]) s) :
    OkE nX (b [v0, v1, some (.tup (gz.map .str)), some (.tup (os.map .str)), v4, v5, v6, v7] s) R := by
  subst hb
  obtain ⟨hna, hq⟩ := na_ok
  unfold bGr27d
  generalize Str.ofString "na" = na at hna
  have c1 := cutX_len (xs := gz) (lo := none) (hi := some 1)
  simp only [Y1,Qf,Qt,Qu,Qa,Qg,Qv,Qw,Qx,Qy,Qh,Qz,Jy,Qi,Qb,Qj,Qk,Q0,Jz,Q1,Q2,J0,Q3,Q4,J1,Ql,Qm,Qn,Q5,Qo,Q6,Qp,Q7,Q8,J2,Q9,Ja,J3,J4,J5,Jb,J6,J7,Jc,J8,J9,Jd,Je,Ya,Jf,Yb,Jg,Jh,Y8,Yc,Ji,Yd,Ye,Yf,Yg,Yh,Y2,Jj,Qq,Jk,Yi,Jl,Jm,Yj,Y3,Yk,Yl,Y4,Ym,Y5,Yn,Qc,Yo,Jn,Yp,Yq,Y6,Yr,Qd,Jo,Jp,Y7,Ys,Yt,Yu,Yv,Yw,Yx,Jq,Jr,Qr,Js,Yy,Qe,Qs,List.set_cons_zero,List.set_cons_succ,List.map_cons,List.map_nil,List.replicate,List.cons_append,List.nil_append,List.length_cons,List.length_nil,Bool.false_eq_true,eq_self,if_true,if_false,Nat.zero_add,Jt,Yz,Ju,Jv,Jw,Y0,Jx,true_and,ok_revT,kRevT_tup,slX]
  rw [addX (by omega), Y1]
  simp only [Y1,Qf,Qt,Qu,Qa,Qg,Qv,Qw,Qx,Qy,Qh,Qz,Jy,Qi,Qb,Qj,Qk,Q0,Jz,Q1,Q2,J0,Q3,Q4,J1,Ql,Qm,Qn,Q5,Qo,Q6,Qp,Q7,Q8,J2,Q9,Ja,J3,J4,J5,Jb,J6,J7,Jc,J8,J9,Jd,Je,Ya,Jf,Yb,Jg,Jh,Y8,Yc,Ji,Yd,Ye,Yf,Yg,Yh,Y2,Jj,Qq,Jk,Yi,Jl,Jm,Yj,Y3,Yk,Yl,Y4,Ym,Y5,Yn,Qc,Yo,Jn,Yp,Yq,Y6,Yr,Qd,Jo,Jp,Y7,Ys,Yt,Yu,Yv,Yw,Yx,Jq,Jr,Qr,Js,Yy,Qe,Qs,List.set_cons_zero,List.set_cons_succ,List.map_cons,List.map_nil,List.replicate,List.cons_append,List.nil_append,List.length_cons,List.length_nil,Bool.false_eq_true,eq_self,if_true,if_false,Nat.zero_add,Jt,Yz,Ju,Jv,Jw,Y0,Jx,true_and]
  repeat (refine ⟨by decide, ?_⟩)
  refine hR _ (fun e he => ?_) rfl
  have hgr : (gz.map Dv.str).reverse = gz.reverse.map .str := by rw [List.map_reverse]
  have hga : Wk (gz ++ cutX gz none (some 1)) := ⟨fun x hx => (List.mem_append.mp hx).elim (hg.1 x) ((hg.cut _ _).1 x), by rw [List.length_append]; omega⟩
  simp only [List.mem_cons, List.not_mem_nil, or_false] at he
  rcases he with rfl | rfl | rfl
  · exact bd_cnt hg.bd (bd_nil (n := 1)) bd_nil (by decide) (by decide)
  · rw [hgr]
    have h1 := bd1 (pile_bd hna (a := 5) (b := 1) (by decide) (by decide) (by decide) ho.bd)
    have h2 := bd1 ho.bd
    exact bd_cnt (hg.rev.bd.up (n2 := 4) (by decide) (Nat.le_refl _)) h1 (h2.up (by decide) (Nat.le_refl _)) (by decide) (by decide)
  · exact bd_cnt hga.bd (bd_nil (n := 1)) bd_nil (by decide) (by decide)
theorem gr27e_spec {b : Fn Ct} (hb : b = bGr27e) {os : List Str} (ho : Wk os) (h2 : 2 ≤ os.length) (h40 : os.length ≤ 40) {v0 v1 v2 v4 v5 v6 v7 : Option Dv} {s : Sto} {R : Ct → Sto → Prop}
    (hR : ∀ rs : List (List Str), (∀ r ∈ rs, Wk r) → rs.length = 5 → R (.next [v0, v1, v2, some (.tup (os.map .str)), v4, some (.ls (rs.map fun r => .tup (r.map .str))), v6, v7]) s) :
    OkE nX (b [v0, v1, v2, some (.tup (os.map .str)), v4, v5, v6, v7] s) R := by
  subst hb
  obtain ⟨hna, hq⟩ := na_ok
  unfold bGr27e
  generalize Str.ofString "na" = na at hna
  generalize Str.ofString "q" = q at hq
  have er : ((os.map Dv.str).reverse.take 2) = (os.reverse.take 2).map .str := by rw [List.map_take, List.map_reverse]
  have c := fun lo hi => cutX_len (xs := os) (lo := lo) (hi := hi)
  have lt : (os.reverse.take 2).length ≤ 2 := by rw [List.length_take]; omega
  have c1 := c none (some (-2))
  have c2 := c (some (-1)) none
  have c3 := c none (some (-1))
  simp only [Y1,Qf,Qt,Qu,Qa,Qg,Qv,Qw,Qx,Qy,Qh,Qz,Jy,Qi,Qb,Qj,Qk,Q0,Jz,Q1,Q2,J0,Q3,Q4,J1,Ql,Qm,Qn,Q5,Qo,Q6,Qp,Q7,Q8,J2,Q9,Ja,J3,J4,J5,Jb,J6,J7,Jc,J8,J9,Jd,Je,Ya,Jf,Yb,Jg,Jh,Y8,Yc,Ji,Yd,Ye,Yf,Yg,Yh,Y2,Jj,Qq,Jk,Yi,Jl,Jm,Yj,Y3,Yk,Yl,Y4,Ym,Y5,Yn,Qc,Yo,Jn,Yp,Yq,Y6,Yr,Qd,Jo,Jp,Y7,Ys,Yt,Yu,Yv,Yw,Yx,Jq,Jr,Qr,Js,Yy,Qe,Qs,List.set_cons_zero,List.set_cons_succ,List.map_cons,List.map_nil,List.replicate,List.cons_append,List.nil_append,List.length_cons,List.length_nil,Bool.false_eq_true,eq_self,if_true,if_false,Nat.zero_add,Jt,Yz,Ju,Jv,Jw,Y0,Jx,true_and,neg_intD,slX,ok_tailT,kTailT_tup,er]
  refine ⟨decide_eq_true (by rw [List.length_map]; exact h2), ?_⟩
  rw [addX (by omega), Y1]
  simp only [Y1,Qf,Qt,Qu,Qa,Qg,Qv,Qw,Qx,Qy,Qh,Qz,Jy,Qi,Qb,Qj,Qk,Q0,Jz,Q1,Q2,J0,Q3,Q4,J1,Ql,Qm,Qn,Q5,Qo,Q6,Qp,Q7,Q8,J2,Q9,Ja,J3,J4,J5,Jb,J6,J7,Jc,J8,J9,Jd,Je,Ya,Jf,Yb,Jg,Jh,Y8,Yc,Ji,Yd,Ye,Yf,Yg,Yh,Y2,Jj,Qq,Jk,Yi,Jl,Jm,Yj,Y3,Yk,Yl,Y4,Ym,Y5,Yn,Qc,Yo,Jn,Yp,Yq,Y6,Yr,Qd,Jo,Jp,Y7,Ys,Yt,Yu,Yv,Yw,Yx,Jq,Jr,Qr,Js,Yy,Qe,Qs,List.set_cons_zero,List.set_cons_succ,List.map_cons,List.map_nil,List.replicate,List.cons_append,List.nil_append,List.length_cons,List.length_nil,Bool.false_eq_true,eq_self,if_true,if_false,Nat.zero_add,Jt,Yz,Ju,Jv,Jw,Y0,Jx,true_and,neg_intD,slX]
  rw [addX (by omega), Y1]
  simp only [Y1,Qf,Qt,Qu,Qa,Qg,Qv,Qw,Qx,Qy,Qh,Qz,Jy,Qi,Qb,Qj,Qk,Q0,Jz,Q1,Q2,J0,Q3,Q4,J1,Ql,Qm,Qn,Q5,Qo,Q6,Qp,Q7,Q8,J2,Q9,Ja,J3,J4,J5,Jb,J6,J7,Jc,J8,J9,Jd,Je,Ya,Jf,Yb,Jg,Jh,Y8,Yc,Ji,Yd,Ye,Yf,Yg,Yh,Y2,Jj,Qq,Jk,Yi,Jl,Jm,Yj,Y3,Yk,Yl,Y4,Ym,Y5,Yn,Qc,Yo,Jn,Yp,Yq,Y6,Yr,Qd,Jo,Jp,Y7,Ys,Yt,Yu,Yv,Yw,Yx,Jq,Jr,Qr,Js,Yy,Qe,Qs,List.set_cons_zero,List.set_cons_succ,List.map_cons,List.map_nil,List.replicate,List.cons_append,List.nil_append,List.length_cons,List.length_nil,Bool.false_eq_true,eq_self,if_true,if_false,Nat.zero_add,Jt,Yz,Ju,Jv,Jw,Y0,Jx,true_and,neg_intD,slX]
  refine ⟨by decide, ?_⟩
  rw [show ([Dv.str q] : List Dv) = [q].map .str from rfl, addX (by rw [List.length_singleton]; omega), Y1]
  simp only [Y1,Qf,Qt,Qu,Qa,Qg,Qv,Qw,Qx,Qy,Qh,Qz,Jy,Qi,Qb,Qj,Qk,Q0,Jz,Q1,Q2,J0,Q3,Q4,J1,Ql,Qm,Qn,Q5,Qo,Q6,Qp,Q7,Q8,J2,Q9,Ja,J3,J4,J5,Jb,J6,J7,Jc,J8,J9,Jd,Je,Ya,Jf,Yb,Jg,Jh,Y8,Yc,Ji,Yd,Ye,Yf,Yg,Yh,Y2,Jj,Qq,Jk,Yi,Jl,Jm,Yj,Y3,Yk,Yl,Y4,Ym,Y5,Yn,Qc,Yo,Jn,Yp,Yq,Y6,Yr,Qd,Jo,Jp,Y7,Ys,Yt,Yu,Yv,Yw,Yx,Jq,Jr,Qr,Js,Yy,Qe,Qs,List.set_cons_zero,List.set_cons_succ,List.map_cons,List.map_nil,List.replicate,List.cons_append,List.nil_append,List.length_cons,List.length_nil,Bool.false_eq_true,eq_self,if_true,if_false,Nat.zero_add,Jt,Yz,Ju,Jv,Jw,Y0,Jx,true_and,neg_intD,slX]
  refine ⟨by decide, ?_⟩
  rw [show ([Dv.str na] : List Dv) = [na].map .str from rfl, addX (by rw [List.length_singleton]; omega), Y1]
  simp only [Y1,Qf,Qt,Qu,Qa,Qg,Qv,Qw,Qx,Qy,Qh,Qz,Jy,Qi,Qb,Qj,Qk,Q0,Jz,Q1,Q2,J0,Q3,Q4,J1,Ql,Qm,Qn,Q5,Qo,Q6,Qp,Q7,Q8,J2,Q9,Ja,J3,J4,J5,Jb,J6,J7,Jc,J8,J9,Jd,Je,Ya,Jf,Yb,Jg,Jh,Y8,Yc,Ji,Yd,Ye,Yf,Yg,Yh,Y2,Jj,Qq,Jk,Yi,Jl,Jm,Yj,Y3,Yk,Yl,Y4,Ym,Y5,Yn,Qc,Yo,Jn,Yp,Yq,Y6,Yr,Qd,Jo,Jp,Y7,Ys,Yt,Yu,Yv,Yw,Yx,Jq,Jr,Qr,Js,Yy,Qe,Qs,List.set_cons_zero,List.set_cons_succ,List.map_cons,List.map_nil,List.replicate,List.cons_append,List.nil_append,List.length_cons,List.length_nil,Bool.false_eq_true,eq_self,if_true,if_false,Nat.zero_add,Jt,Yz,Ju,Jv,Jw,Y0,Jx,true_and]
  have ap : ∀ xs ys : List Str, Wk xs → (∀ x ∈ ys, PyData.strOk x = true ∧ x.cps.size ≤ 8) → xs.length + ys.length ≤ 90 → Wk (xs ++ ys) := fun xs ys h1 h2 h3 => ⟨fun x hx => (List.mem_append.mp hx).elim (h1.1 x) (h2 x), by rw [List.length_append]; exact h3⟩
  have := hR [os, cutX os none (some (-2)) ++ os.reverse.take 2, os ++ cutX os (some (-1)) none, cutX os none (some (-1)) ++ [q], cutX os none (some (-1)) ++ [na]] (fun r hr => by
    simp only [List.mem_cons, List.not_mem_nil, or_false] at hr
    rcases hr with rfl | rfl | rfl | rfl | rfl
    · exact ho
    · exact ap _ _ (ho.cut _ _) (fun x hx => ho.1 x (List.mem_reverse.mp (List.mem_of_mem_take hx))) (by omega)
    · exact ap _ _ ho (ho.cut _ _).1 (by omega)
    · exact ap _ _ (ho.cut _ _) (fun x hx => by rw [List.mem_singleton.mp hx]; exact hq) (by rw [List.length_singleton]; omega)
    · exact ap _ _ (ho.cut _ _) (fun x hx => by rw [List.mem_singleton.mp hx]; exact hna) (by rw [List.length_singleton]; omega)) rfl
  exact ⟨by decide, this⟩
theorem gr27f_spec {b : Fn Ct} (hb : b = bGr27f) {gz : List Str} (hg : Wk gz) {rs : List (List Str)} (hr : ∀ r ∈ rs, Wk r) (hrl : rs.length = 5) {ds : List Dv} (hds : ∀ e ∈ ds, Bd 30 160000 e) (hdl : ds.length = 3) {v0 v1 v3 v6 v7 : Option Dv} {s : Sto} {R : Ct → Sto → Prop}
    (hR : ∀ (ds : List Dv) (v6 : Option Dv), (∀ e ∈ ds, Bd 30 160000 e) → ds.length ≤ 100 → R (.next [v0, v1, some (.tup (gz.map .str)), v3, some (.ls ds), some (.ls (rs.map fun r => .tup (r.map .str))), v6, v7]) s) :
    OkE nX (b [v0, v1, some (.tup (gz.map .str)), v3, some (.ls ds), some (.ls (rs.map fun r => .tup (r.map .str))), v6, v7] s) R := by
  subst hb
  obtain ⟨hna, hq⟩ := na_ok
  unfold bGr27f
  generalize Str.ofString "na" = na at hna
  simp only [Y1,Qf,Qt,Qu,Qa,Qg,Qv,Qw,Qx,Qy,Qh,Qz,Jy,Qi,Qb,Qj,Qk,Q0,Jz,Q1,Q2,J0,Q3,Q4,J1,Ql,Qm,Qn,Q5,Qo,Q6,Qp,Q7,Q8,J2,Q9,Ja,J3,J4,J5,Jb,J6,J7,Jc,J8,J9,Jd,Je,Ya,Jf,Yb,Jg,Jh,Y8,Yc,Ji,Yd,Ye,Yf,Yg,Yh,Y2,Jj,Qq,Jk,Yi,Jl,Jm,Yj,Y3,Yk,Yl,Y4,Ym,Y5,Yn,Qc,Yo,Jn,Yp,Yq,Y6,Yr,Qd,Jo,Jp,Y7,Ys,Yt,Yu,Yv,Yw,Yx,Jq,Jr,Qr,Js,Yy,Qe,Qs,List.set_cons_zero,List.set_cons_succ,List.map_cons,List.map_nil,List.replicate,List.cons_append,List.nil_append,List.length_cons,List.length_nil,Bool.false_eq_true,eq_self,if_true,if_false,Nat.zero_add,Jt,Yz,Ju,Jv,Jw,Y0,Jx,true_and]
  refine ok_loop (fun i env s' => ∃ (ds : List Dv) (v6 : Option Dv), env = [v0, v1, some (.tup (gz.map .str)), v3, some (.ls ds), some (.ls (rs.map fun r => .tup (r.map .str))), v6, v7] ∧ s' = s ∧ (∀ e ∈ ds, Bd 30 160000 e) ∧ ds.length = 3 + 2 * i)
    (fun _ _ _ _ => rfl) (fun i d env s' hd q => ?_) (fun env s' q => ?_) ⟨ds, _, rfl, rfl, hds, hdl⟩
  · obtain ⟨es, v6, rfl, rfl, h1, h2⟩ := q
    have hi := (List.getElem?_eq_some_iff.mp hd).1
    rw [List.length_map] at hi
    rw [List.getElem?_map] at hd
    obtain ⟨w, hw, rfl⟩ := Option.map_eq_some_iff.mp hd
    have hw := hr w (List.mem_of_getElem? hw)
    simp only [Y1,Qf,Qt,Qu,Qa,Qg,Qv,Qw,Qx,Qy,Qh,Qz,Jy,Qi,Qb,Qj,Qk,Q0,Jz,Q1,Q2,J0,Q3,Q4,J1,Ql,Qm,Qn,Q5,Qo,Q6,Qp,Q7,Q8,J2,Q9,Ja,J3,J4,J5,Jb,J6,J7,Jc,J8,J9,Jd,Je,Ya,Jf,Yb,Jg,Jh,Y8,Yc,Ji,Yd,Ye,Yf,Yg,Yh,Y2,Jj,Qq,Jk,Yi,Jl,Jm,Yj,Y3,Yk,Yl,Y4,Ym,Y5,Yn,Qc,Yo,Jn,Yp,Yq,Y6,Yr,Qd,Jo,Jp,Y7,Ys,Yt,Yu,Yv,Yw,Yx,Jq,Jr,Qr,Js,Yy,Qe,Qs,List.set_cons_zero,List.set_cons_succ,List.map_cons,List.map_nil,List.replicate,List.cons_append,List.nil_append,List.length_cons,List.length_nil,Bool.false_eq_true,eq_self,if_true,if_false,Nat.zero_add,Jt,Yz,Ju,Jv,Jw,Y0,Jx,true_and,ok_catL,kCat_ap]
    rw [kCat2_ls]
    repeat (refine ⟨by decide, ?_⟩)
    refine ⟨decide_eq_true (by simp only [List.length_cons, List.length_nil]; omega), ?_⟩
    simp only [Y1,Qf,Qt,Qu,Qa,Qg,Qv,Qw,Qx,Qy,Qh,Qz,Jy,Qi,Qb,Qj,Qk,Q0,Jz,Q1,Q2,J0,Q3,Q4,J1,Ql,Qm,Qn,Q5,Qo,Q6,Qp,Q7,Q8,J2,Q9,Ja,J3,J4,J5,Jb,J6,J7,Jc,J8,J9,Jd,Je,Ya,Jf,Yb,Jg,Jh,Y8,Yc,Ji,Yd,Ye,Yf,Yg,Yh,Y2,Jj,Qq,Jk,Yi,Jl,Jm,Yj,Y3,Yk,Yl,Y4,Ym,Y5,Yn,Qc,Yo,Jn,Yp,Yq,Y6,Yr,Qd,Jo,Jp,Y7,Ys,Yt,Yu,Yv,Yw,Yx,Jq,Jr,Qr,Js,Yy,Qe,Qs,List.set_cons_zero,List.set_cons_succ,List.map_cons,List.map_nil,List.replicate,List.cons_append,List.nil_append,List.length_cons,List.length_nil,Bool.false_eq_true,eq_self,if_true,if_false,Nat.zero_add,Jt,Yz,Ju,Jv,Jw,Y0,Jx,true_and]
    refine ⟨_, _, rfl, fun e he => ?_, by simp only [List.length_append, List.length_cons, List.length_nil]; omega⟩
    rcases List.mem_append.mp he with h | h
    · exact h1 e h
    · simp only [List.mem_cons, List.not_mem_nil, or_false] at h
      rcases h with rfl | rfl
      · have h1 := bd1 (pile_bd hna (a := 5) (b := 1) (by decide) (by decide) (by decide) hw.bd)
        exact bd_cnt (hg.bd.up (n2 := 4) (by decide) (Nat.le_refl _)) h1 (bd_nil (n := 3)) (by decide) (by decide)
      · have h2 := bd1 hw.bd
        exact bd_cnt (hg.bd.up (n2 := 3) (by decide) (Nat.le_refl _)) (bd_nil (n := 2)) h2 (by decide) (by decide)
  · obtain ⟨es, v6, rfl, rfl, h1, h2⟩ := q
    rw [List.length_map, hrl] at h2
    exact hR _ _ h1 (by omega)
def GreatQ5 (φ : Phi) : Prop := ∀ (t : Tap) (r : Sto), t.Wf → t.calls + 10 ≤ 1000000 → Fl r → OkE nX (φ [.loc 0] (tapOb t :: r)) fun d s' => ∃ (ds : List Dv) (t' : Tap), d = .ls ds ∧ (∀ e ∈ ds, Bd 30 160000 e) ∧ ds.length ≤ 100 ∧ s' = tapOb t' :: r ∧ t'.Wf ∧ t'.calls = t.calls + 1
theorem great27_spec {φt : Phi} {bd be bf : Fn Ct} (hbd : bd = bGr27d) (hbe : be = bGr27e) (hbf : bf = bGr27f) (hT : TakeS φt) : GreatQ5 (fDef 1 8 (bGr27 φt bd be bf)) := by
  intro t r hw hc hf
  rw [ok_def]
  refine ⟨rfl, ?_⟩
  unfold bGr27
  obtain ⟨z0, hz0⟩ : ∃ z, letQ = z := ⟨_, rfl⟩
  obtain ⟨fG, hfG⟩ : ∃ f : Fn Dv, fGreat 1 7 = f := ⟨_, rfl⟩
  have hG : ∀ {env : En} {s : Sto} {T : Dv → Sto → Prop}, (∀ s : Sto, fVar 1 env s = .ok (.str z0) s) → (∀ (d : Dv) (s : Sto), fVar 7 ((wipeZ env [7]).set 7 (some d)) s = .ok d s) → (∀ gz : List Str, Two2 gz → gz.length = 40 → T (.tup (gz.map .str)) s) → OkE nX (fG env s) T := by
    rw [← hfG, ← hz0]; exact greatL40
  rw [hfG, hz0]
  simp only [Y1,Qf,Qt,Qu,Qa,Qg,Qv,Qw,Qx,Qy,Qh,Qz,Jy,Qi,Qb,Qj,Qk,Q0,Jz,Q1,Q2,J0,Q3,Q4,J1,Ql,Qm,Qn,Q5,Qo,Q6,Qp,Q7,Q8,J2,Q9,Ja,J3,J4,J5,Jb,J6,J7,Jc,J8,J9,Jd,Je,Ya,Jf,Yb,Jg,Jh,Y8,Yc,Ji,Yd,Ye,Yf,Yg,Yh,Y2,Jj,Qq,Jk,Yi,Jl,Jm,Yj,Y3,Yk,Yl,Y4,Ym,Y5,Yn,Qc,Yo,Jn,Yp,Yq,Y6,Yr,Qd,Jo,Jp,Y7,Ys,Yt,Yu,Yv,Yw,Yx,Jq,Jr,Qr,Js,Yy,Qe,Qs,List.set_cons_zero,List.set_cons_succ,List.map_cons,List.map_nil,List.replicate,List.cons_append,List.nil_append,List.length_cons,List.length_nil,Bool.false_eq_true,eq_self,if_true,if_false,Nat.zero_add,Jt,Yz,Ju,Jv,Jw,Y0,Jx,true_and]
  refine hG (fun s => rfl) (fun d s => rfl) fun gz hgz hgl => ?_
  simp only [Y1,Qf,Qt,Qu,Qa,Qg,Qv,Qw,Qx,Qy,Qh,Qz,Jy,Qi,Qb,Qj,Qk,Q0,Jz,Q1,Q2,J0,Q3,Q4,J1,Ql,Qm,Qn,Q5,Qo,Q6,Qp,Q7,Q8,J2,Q9,Ja,J3,J4,J5,Jb,J6,J7,Jc,J8,J9,Jd,Je,Ya,Jf,Yb,Jg,Jh,Y8,Yc,Ji,Yd,Ye,Yf,Yg,Yh,Y2,Jj,Qq,Jk,Yi,Jl,Jm,Yj,Y3,Yk,Yl,Y4,Ym,Y5,Yn,Qc,Yo,Jn,Yp,Yq,Y6,Yr,Qd,Jo,Jp,Y7,Ys,Yt,Yu,Yv,Yw,Yx,Jq,Jr,Qr,Js,Yy,Qe,Qs,List.set_cons_zero,List.set_cons_succ,List.map_cons,List.map_nil,List.replicate,List.cons_append,List.nil_append,List.length_cons,List.length_nil,Bool.false_eq_true,eq_self,if_true,if_false,Nat.zero_add,Jt,Yz,Ju,Jv,Jw,Y0,Jx,true_and]
  refine (hT t r 6 hw (by omega) (by decide) (by decide) hf).mono ?_
  rintro d s ⟨x, t2, rfl, hx0, hx1, rfl, hw2, hc2⟩
  have hg : Wk gz := ⟨fun z hz => ⟨(hgz.2 z hz).1, by have := (hgz.2 z hz).2; omega⟩, by omega⟩
  have hcl : 2 ≤ (cutX gz (some 1) (some (5 + x))).length := by
    unfold cutX
    rw [List.length_take, List.length_drop, hgl]
    have : x = 0 ∨ x = 1 ∨ x = 2 ∨ x = 3 ∨ x = 4 ∨ x = 5 := by omega
    rcases this with rfl | rfl | rfl | rfl | rfl | rfl <;> decide
  have hcu := cutX_len (xs := gz) (lo := some 1) (hi := some (5 + x))
  have ea : ∀ s : Sto, gAdd (.int 5) (.int x) s = .ok (.int (5 + x)) s := fun s => rfl
  simp only [Y1,Qf,Qt,Qu,Qa,Qg,Qv,Qw,Qx,Qy,Qh,Qz,Jy,Qi,Qb,Qj,Qk,Q0,Jz,Q1,Q2,J0,Q3,Q4,J1,Ql,Qm,Qn,Q5,Qo,Q6,Qp,Q7,Q8,J2,Q9,Ja,J3,J4,J5,Jb,J6,J7,Jc,J8,J9,Jd,Je,Ya,Jf,Yb,Jg,Jh,Y8,Yc,Ji,Yd,Ye,Yf,Yg,Yh,Y2,Jj,Qq,Jk,Yi,Jl,Jm,Yj,Y3,Yk,Yl,Y4,Ym,Y5,Yn,Qc,Yo,Jn,Yp,Yq,Y6,Yr,Qd,Jo,Jp,Y7,Ys,Yt,Yu,Yv,Yw,Yx,Jq,Jr,Qr,Js,Yy,Qe,Qs,List.set_cons_zero,List.set_cons_succ,List.map_cons,List.map_nil,List.replicate,List.cons_append,List.nil_append,List.length_cons,List.length_nil,Bool.false_eq_true,eq_self,if_true,if_false,Nat.zero_add,Jt,Yz,Ju,Jv,Jw,Y0,Jx,true_and,ea,slX,sorted_tup,tuple_ls]
  have ho : Wk (srtS (cutX gz (some 1) (some (5 + x)))) := ⟨fun z hz => (hg.cut _ _).1 z ((srtS_perm _).mem_iff.mp hz), by rw [srtS_len]; omega⟩
  have hol : 2 ≤ (srtS (cutX gz (some 1) (some (5 + x)))).length ∧ (srtS (cutX gz (some 1) (some (5 + x)))).length ≤ 40 := by rw [srtS_len]; omega
  generalize srtS (cutX gz (some 1) (some (5 + x))) = os at ho hol
  refine gr27d_spec hbd hg hgl ho fun ds h1 h2 => ?_
  simp only [Y1,Qf,Qt,Qu,Qa,Qg,Qv,Qw,Qx,Qy,Qh,Qz,Jy,Qi,Qb,Qj,Qk,Q0,Jz,Q1,Q2,J0,Q3,Q4,J1,Ql,Qm,Qn,Q5,Qo,Q6,Qp,Q7,Q8,J2,Q9,Ja,J3,J4,J5,Jb,J6,J7,Jc,J8,J9,Jd,Je,Ya,Jf,Yb,Jg,Jh,Y8,Yc,Ji,Yd,Ye,Yf,Yg,Yh,Y2,Jj,Qq,Jk,Yi,Jl,Jm,Yj,Y3,Yk,Yl,Y4,Ym,Y5,Yn,Qc,Yo,Jn,Yp,Yq,Y6,Yr,Qd,Jo,Jp,Y7,Ys,Yt,Yu,Yv,Yw,Yx,Jq,Jr,Qr,Js,Yy,Qe,Qs,List.set_cons_zero,List.set_cons_succ,List.map_cons,List.map_nil,List.replicate,List.cons_append,List.nil_append,List.length_cons,List.length_nil,Bool.false_eq_true,eq_self,if_true,if_false,Nat.zero_add,Jt,Yz,Ju,Jv,Jw,Y0,Jx,true_and]
  refine gr27e_spec hbe ho hol.1 hol.2 fun rs h3 h4 => ?_
  simp only [Y1,Qf,Qt,Qu,Qa,Qg,Qv,Qw,Qx,Qy,Qh,Qz,Jy,Qi,Qb,Qj,Qk,Q0,Jz,Q1,Q2,J0,Q3,Q4,J1,Ql,Qm,Qn,Q5,Qo,Q6,Qp,Q7,Q8,J2,Q9,Ja,J3,J4,J5,Jb,J6,J7,Jc,J8,J9,Jd,Je,Ya,Jf,Yb,Jg,Jh,Y8,Yc,Ji,Yd,Ye,Yf,Yg,Yh,Y2,Jj,Qq,Jk,Yi,Jl,Jm,Yj,Y3,Yk,Yl,Y4,Ym,Y5,Yn,Qc,Yo,Jn,Yp,Yq,Y6,Yr,Qd,Jo,Jp,Y7,Ys,Yt,Yu,Yv,Yw,Yx,Jq,Jr,Qr,Js,Yy,Qe,Qs,List.set_cons_zero,List.set_cons_succ,List.map_cons,List.map_nil,List.replicate,List.cons_append,List.nil_append,List.length_cons,List.length_nil,Bool.false_eq_true,eq_self,if_true,if_false,Nat.zero_add,Jt,Yz,Ju,Jv,Jw,Y0,Jx,true_and]
  refine gr27f_spec hbf hg h3 h4 h1 h2 fun ds v6 h5 h6 => ?_
  simp only [Y1,Qf,Qt,Qu,Qa,Qg,Qv,Qw,Qx,Qy,Qh,Qz,Jy,Qi,Qb,Qj,Qk,Q0,Jz,Q1,Q2,J0,Q3,Q4,J1,Ql,Qm,Qn,Q5,Qo,Q6,Qp,Q7,Q8,J2,Q9,Ja,J3,J4,J5,Jb,J6,J7,Jc,J8,J9,Jd,Je,Ya,Jf,Yb,Jg,Jh,Y8,Yc,Ji,Yd,Ye,Yf,Yg,Yh,Y2,Jj,Qq,Jk,Yi,Jl,Jm,Yj,Y3,Yk,Yl,Y4,Ym,Y5,Yn,Qc,Yo,Jn,Yp,Yq,Y6,Yr,Qd,Jo,Jp,Y7,Ys,Yt,Yu,Yv,Yw,Yx,Jq,Jr,Qr,Js,Yy,Qe,Qs,List.set_cons_zero,List.set_cons_succ,List.map_cons,List.map_nil,List.replicate,List.cons_append,List.nil_append,List.length_cons,List.length_nil,Bool.false_eq_true,eq_self,if_true,if_false,Nat.zero_add,Jt,Yz,Ju,Jv,Jw,Y0,Jx,true_and]
  refine fin_tap0 hf ?_ ⟨ds, t2, rfl, h5, h6, rfl, hw2, hc2⟩
  exact below_ls (belows_all fun d hd => gb_below 0 (h5 d hd).g)
end Z

namespace Z
open PySem PySem.Spec L2

/-! ### k05: the things of a count -/
def pr3A (i j l : Nat) (env : En) (R : Ct → Sto → Prop) : List Dv → Sto → Prop := fun ds s => match ds with
  | [d, e, h] => R (.next (((env.set i (some d)).set j (some e)).set l (some h))) s
  | _ => False
theorem pr3A_mk {i j l : Nat} {d e h : Dv} {env : En} {R : Ct → Sto → Prop} {s : Sto} : pr3A i j l env R [d, e, h] s = R (.next (((env.set i (some d)).set j (some e)).set l (some h))) s := rfl
theorem ok_par3A {i j l : Nat} {f : Fn (List Dv)} {env : En} {R : Ct → Sto → Prop} {s : Sto} : OkE nX (fPar3 i j l f env s) R ↔ OkE nX (f env s) (pr3A i j l env R) := by
  unfold fPar3; rw [ok_bind]
  cases f env s with
  | ok ds s1 =>
    show OkE nX (match ds with | [d, e, h] => _ | _ => _) R ↔ pr3A i j l env R ds s1
    unfold pr3A
    split <;> exact Iff.rfl
  | _ => exact Iff.rfl
theorem sA_get {t : Tap} {r os : Sto} {ds : List Dv} : (tapOb t :: (r ++ (os ++ [.lst ds])))[r.length + os.length + 1]? = some (.lst ds) := by
  rw [List.getElem?_cons_succ, List.getElem?_append_right (by omega), List.getElem?_append_right (by omega), show r.length + os.length - r.length - os.length = 0 by omega]; rfl
theorem sA_set {t : Tap} {r os : Sto} {ds es : List Dv} : (tapOb t :: (r ++ (os ++ [.lst ds]))).set (r.length + os.length + 1) (.lst es) = tapOb t :: (r ++ (os ++ [.lst es])) := by
  rw [List.set_cons_succ, List.set_append_right _ _ (by omega), List.set_append_right _ _ (by omega), show r.length + os.length - r.length - os.length = 0 by omega]; rfl
def FB (d : Dv) : Prop := Bd 30 160000 d
theorem fb_below {ds : List Dv} (h : ∀ e ∈ ds, FB e) : belows 0 ds = true := belows_all fun d hd => gb_below 0 (h d hd).g
theorem fb_fl {r os : Sto} {ds : List Dv} (hf : Fl r) (ho : Fl os) (h : ∀ e ∈ ds, FB e) : Fl (r ++ (os ++ [.lst ds])) := hf.app (ho.app (Fl.one (fb_below h)))
/-- what a count is made of -/
structure CP (lots : List Str) (ps qs : List Dv) (one other : Str) (lw : List Str) : Prop where
  hlots : Wk lots
  l6 : lots.length ≤ 6
  hone : PyData.strOk one = true ∧ one.cps.size ≤ 8
  hother : PyData.strOk other = true ∧ other.cps.size ≤ 8
  hlw : ∀ x ∈ lw, PyData.strOk x = true ∧ x.cps.size ≤ 8
  lw2 : lw.length ≤ 2
  hps : ∀ p ∈ ps, Bd 3 700 p
  pl : ps.length ≤ 10
  hqs : ∀ q ∈ qs, Bd 2 60 q
  ql : qs.length ≤ 12
  md : Md (10 ^ 50) 101 5 8000 (.tup [.tup (lots.map .str), .tup ps, .tup qs])
  ht : tn (.tup [.tup (lots.map .str), .tup ps, .tup qs]) ≤ 12
def bTg4 : Fn Ct := (fFor (fSrc (fTup (fCons (fTup (fCons (fVar 5) (fNil))) (fCons (fTup (fCons (fVar 6) (fNil))) (fCons (fVar 7) (fCons (fRevT (fVar 7)) (fCons (fTup (fCons (fVar 6) (fCons (fVar 6) (fNil)))) (fCons (fTup (fCons (fC (.str (Str.ofString "q"))) (fNil))) (fCons (fVal (fLst (fCons (fVar 6) (fNil)))) (fCons (fVar 6) (fNil))))))))))) (gNm 9) (fDrop (fMt isL gAppend (fVar 8) (fCons (fTup (fCons (fVar 2) (fCons (fTup (fCons (fTup (fCons (fVar 5) (fCons (fC (.int 3)) (fCons (fC (.int 1)) (fCons (fVar 9) (fNil)))))) (fNil))) (fCons (fTup (fNil)) (fNil))))) (fNil)))))
def bTg5 : Fn Ct := (fFor (fSrc (fTup (fCons (fVar 7) (fCons (fRevT (fVar 7)) (fCons (fTup (fNil)) (fCons (fTup (fCons (fVar 5) (fNil))) (fCons (fTup (fCons (fVar 5) (fCons (fVar 5) (fNil)))) (fCons (fVal (fLst (fCons (fVar 5) (fNil)))) (fCons (fTup (fCons (fC (.str (Str.ofString "q"))) (fNil))) (fNil)))))))))) (gNm 10) (fDrop (fMt isL gAppend (fVar 8) (fCons (fTup (fCons (fVar 2) (fCons (fTup (fNil)) (fCons (fTup (fCons (fVar 7) (fCons (fVar 10) (fNil)))) (fNil))))) (fNil)))))
def bTg6 : Fn Ct := (fFor (fSrc (fTup (fCons (fC (.int 0)) (fCons (fUn gNeg (fC (.int 1))) (fCons (fC (.bl true)) (fCons (fC .non) (fCons (fBin gPow (fC (.int 10)) (fC (.int 50))) (fNil)))))))) (gNm 11) (fSet 8 (fNew (fCatL (fVar 8) (fVal (fLst (fCons (fTup (fCons (fVar 2) (fCons (fTup (fCons (fTup (fCons (fVar 5) (fCons (fVar 11) (fCons (fC (.int 0)) (fCons (fTup (fNil)) (fNil)))))) (fNil))) (fCons (fTup (fNil)) (fNil))))) (fCons (fTup (fCons (fVar 2) (fCons (fTup (fCons (fTup (fCons (fVar 5) (fCons (fC (.int 0)) (fCons (fVar 11) (fCons (fTup (fNil)) (fNil)))))) (fNil))) (fCons (fTup (fNil)) (fNil))))) (fNil)))))))))
def bTg7 (φb : Phi) : Fn Ct := (fFor (fRng1 (fCons (fC (.int 8)) (fNil))) (gNm 12) (fSeq (fSet 13 (fCall φb (fCons (fVar 0) (fCons (fVar 1) (fCons (fC (.int 4)) (fNil))))))
  (fSet 8 (fNew (fCatL (fVar 8) (fVal (fLst (fCons (fVar 13) (fCons (fCall φb (fCons (fVar 0) (fCons (fVar 13) (fCons (fC (.int 4)) (fNil))))) (fNil))))))))))
def bTg8 (φo : Phi) : Fn Ct := fRet (fVal (fCatL (fVar 8) (fVal (fLst (fCons (fCall φo (fCons (fVar 0) (fNil))) (fCons (fVal (fCallL gList (fCons (fVar 1) (fNil)))) (fCons (fTup (fCons (fVar 2) (fCons (fVal (fCallL gList (fCons (fVar 3) (fNil)))) (fCons (fVar 4) (fNil))))) (fNil))))))))
def bTg3 : Fn Ct := (fSet 8 (fNew (fLst (fCons (fVar 1) (fCons (fTup (fCons (fVar 2) (fCons (fBin gTimesV (fVar 3) (fC (.int 10))) (fCons (fBin gTimesV (fVar 4) (fC (.int 9))) (fNil))))) (fCons (fTup (fCons (fVar 2) (fCons (fTup (fNil)) (fCons (fTup (fNil)) (fNil))))) (fCons (fTup (fCons (fSl (fVar 2) (fNoPart) (fPart (fC (.int 1)))) (fCons (fTup (fNil)) (fCons (fTup (fNil)) (fNil))))) (fCons (fTup (fCons (fBin gAdd (fVar 2) (fSl (fVar 2) (fNoPart) (fPart (fC (.int 1))))) (fCons (fTup (fNil)) (fCons (fTup (fNil)) (fNil))))) (fNil)))))))))
theorem lots_bd {lots lw : List Str} {ps qs : List Dv} {one other : Str} (h : CP lots ps qs one other lw) : Bd 2 54 (.tup (lots.map .str)) := bd_strs (k := 8) (m := 6) h.hlots.1 (by decide) h.l6 (by decide)
theorem timesV_ok {ds : List Dv} {k : Int} (h0 : 0 ≤ k) (h1 : k ≤ 1000) (hl : ds.length ≤ 1000) {s : Sto} : gTimesV (.tup ds) (.int k) s = .ok (.tup (List.replicate k.toNat ds).flatten) s := by
  cases ds with
  | nil =>
    show Rs.iff (decide (0 ≤ k) && decide (k ≤ 1000)) (Rs.ok (Dv.tup []) s) = _
    rw [decide_eq_true h0, decide_eq_true h1]
    have : (List.replicate k.toNat ([] : List Dv)).flatten = [] := by simp
    rw [this]; rfl
  | cons d ds =>
    show Rs.iff (!(d :: ds).isEmpty && decide (0 ≤ k) && decide (k ≤ 1000) && decide ((d :: ds).length ≤ 1000)) _ = _
    rw [decide_eq_true h0, decide_eq_true h1, decide_eq_true hl]; rfl
theorem times_bd {n w m k : Nat} {ds : List Dv} (h : ∀ e ∈ ds, Bd n w e) (hl : ds.length ≤ m) (hm : k * m ≤ 4000) : Bd (n + 1) (k * m * (w + 1)) (.tup (List.replicate k ds).flatten) :=
  Bd.tup (fun e he => h e (mem_rep he)) (by
    have := rep_len k ds
    unfold timesD at this
    rw [this]
    exact Nat.mul_le_mul_left _ hl) hm
theorem tg3_spec {b : Fn Ct} (hb : b = bTg3) {lots lw : List Str} {ps qs : List Dv} {one other : Str} (h : CP lots ps qs one other lw) {t : Tap} {r : Sto} {v0 v5 v6 v7 v8 v9 v10 v11 v12 v13 : Option Dv} {R : Ct → Sto → Prop}
    (hR : ∀ ds : List Dv, (∀ e ∈ ds, FB e) → ds.length ≤ 20 → R (.next [v0, some (.tup [.tup (lots.map .str), .tup ps, .tup qs]), some (.tup (lots.map .str)), some (.tup ps), some (.tup qs), v5, v6, v7, some (.loc (r.length + 1)), v9, v10, v11, v12, v13]) (tapOb t :: (r ++ [.lst ds]))) :
    OkE nX (b [v0, some (.tup [.tup (lots.map .str), .tup ps, .tup qs]), some (.tup (lots.map .str)), some (.tup ps), some (.tup qs), v5, v6, v7, v8, v9, v10, v11, v12, v13] (tapOb t :: r)) R := by
  subst hb
  unfold bTg3
  have pl := h.pl
  have ql := h.ql
  have e1 : ∀ s : Sto, gTimesV (.tup ps) (.int 10) s = .ok (.tup (List.replicate 10 ps).flatten) s := fun s => timesV_ok (k := 10) (by decide) (by decide) (by omega)
  have e2 : ∀ s : Sto, gTimesV (.tup qs) (.int 9) s = .ok (.tup (List.replicate 9 qs).flatten) s := fun s => timesV_ok (k := 9) (by decide) (by decide) (by omega)
  have c1 := cutX_len (xs := lots) (lo := none) (hi := some 1)
  have l6 := h.l6
  simp only [Y1,Qf,Qt,Qu,Qa,Qg,Qv,Qw,Qx,Qy,Qh,Qz,Jy,Qi,Qb,Qj,Qk,Q0,Jz,Q1,Q2,J0,Q3,Q4,J1,Ql,Qm,Qn,Q5,Qo,Q6,Qp,Q7,Q8,J2,Q9,Ja,J3,J4,J5,Jb,J6,J7,Jc,J8,J9,Jd,Je,Ya,Jf,Yb,Jg,Jh,Y8,Yc,Ji,Yd,Ye,Yf,Yg,Yh,Y2,Jj,Qq,Jk,Yi,Jl,Jm,Yj,Y3,Yk,Yl,Y4,Ym,Y5,Yn,Qc,Yo,Jn,Yp,Yq,Y6,Yr,Qd,Jo,Jp,Y7,Ys,Yt,Yu,Yv,Yw,Yx,Jq,Jr,Qr,Js,Yy,Qe,Qs,List.set_cons_zero,List.set_cons_succ,List.map_cons,List.map_nil,List.replicate,List.cons_append,List.nil_append,List.length_cons,List.length_nil,Bool.false_eq_true,eq_self,if_true,if_false,Nat.zero_add,Jt,Yz,Ju,Jv,Jw,Y0,Jx,true_and,e1,e2]
  repeat (refine ⟨by decide, ?_⟩)
  simp only [Y1,Qf,Qt,Qu,Qa,Qg,Qv,Qw,Qx,Qy,Qh,Qz,Jy,Qi,Qb,Qj,Qk,Q0,Jz,Q1,Q2,J0,Q3,Q4,J1,Ql,Qm,Qn,Q5,Qo,Q6,Qp,Q7,Q8,J2,Q9,Ja,J3,J4,J5,Jb,J6,J7,Jc,J8,J9,Jd,Je,Ya,Jf,Yb,Jg,Jh,Y8,Yc,Ji,Yd,Ye,Yf,Yg,Yh,Y2,Jj,Qq,Jk,Yi,Jl,Jm,Yj,Y3,Yk,Yl,Y4,Ym,Y5,Yn,Qc,Yo,Jn,Yp,Yq,Y6,Yr,Qd,Jo,Jp,Y7,Ys,Yt,Yu,Yv,Yw,Yx,Jq,Jr,Qr,Js,Yy,Qe,Qs,List.set_cons_zero,List.set_cons_succ,List.map_cons,List.map_nil,List.replicate,List.cons_append,List.nil_append,List.length_cons,List.length_nil,Bool.false_eq_true,eq_self,if_true,if_false,Nat.zero_add,Jt,Yz,Ju,Jv,Jw,Y0,Jx,true_and,slX]
  repeat (refine ⟨by decide, ?_⟩)
  rw [addX (by omega), Y1]
  simp only [Y1,Qf,Qt,Qu,Qa,Qg,Qv,Qw,Qx,Qy,Qh,Qz,Jy,Qi,Qb,Qj,Qk,Q0,Jz,Q1,Q2,J0,Q3,Q4,J1,Ql,Qm,Qn,Q5,Qo,Q6,Qp,Q7,Q8,J2,Q9,Ja,J3,J4,J5,Jb,J6,J7,Jc,J8,J9,Jd,Je,Ya,Jf,Yb,Jg,Jh,Y8,Yc,Ji,Yd,Ye,Yf,Yg,Yh,Y2,Jj,Qq,Jk,Yi,Jl,Jm,Yj,Y3,Yk,Yl,Y4,Ym,Y5,Yn,Qc,Yo,Jn,Yp,Yq,Y6,Yr,Qd,Jo,Jp,Y7,Ys,Yt,Yu,Yv,Yw,Yx,Jq,Jr,Qr,Js,Yy,Qe,Qs,List.set_cons_zero,List.set_cons_succ,List.map_cons,List.map_nil,List.replicate,List.cons_append,List.nil_append,List.length_cons,List.length_nil,Bool.false_eq_true,eq_self,if_true,if_false,Nat.zero_add,Jt,Yz,Ju,Jv,Jw,Y0,Jx,true_and]
  repeat (refine ⟨by decide, ?_⟩)
  refine hR _ (fun e he => ?_) (by simp)
  have hL := lots_bd h
  have hga : Wk (lots ++ cutX lots none (some 1)) := ⟨fun x hx => (List.mem_append.mp hx).elim (h.hlots.1 x) ((h.hlots.cut _ _).1 x), by rw [List.length_append]; omega⟩
  simp only [List.mem_cons, List.not_mem_nil, or_false] at he
  rcases he with rfl | rfl | rfl | rfl | rfl
  · exact bd_cnt (hL.up (n2 := 4) (by decide) (Nat.le_refl _)) (Bd.tup (m := 10) h.hps pl (by decide)) ((Bd.tup (m := 12) h.hqs ql (by decide)).up (by decide) (Nat.le_refl _)) (by decide) (by decide)
  · exact bd_cnt (hL.up (n2 := 4) (by decide) (Nat.le_refl _)) (times_bd (k := 10) (m := 10) h.hps pl (by decide)) ((times_bd (k := 9) (m := 12) h.hqs ql (by decide)).up (by decide) (Nat.le_refl _)) (by decide) (by decide)
  · exact bd_cnt hL (bd_nil (n := 1)) bd_nil (by decide) (by decide)
  · exact bd_cnt (h.hlots.cut _ _).bd (bd_nil (n := 1)) bd_nil (by decide) (by decide)
  · exact bd_cnt hga.bd (bd_nil (n := 1)) bd_nil (by decide) (by decide)
theorem app_fb {ds : List Dv} {d : Dv} (h : ∀ e ∈ ds, FB e) (hd : FB d) : ∀ e ∈ ds ++ [d], FB e := fun e he => (List.mem_append.mp he).elim (h e) fun h => by rw [List.mem_singleton.mp h]; exact hd
theorem tg4_spec {b : Fn Ct} (hb : b = bTg4) {lots lw : List Str} {ps qs : List Dv} {one other : Str} (h : CP lots ps qs one other lw) {t : Tap} {r os : Sto} {ds : List Dv} (hds : ∀ e ∈ ds, FB e) (hdl : ds.length ≤ 900) {v0 v1 v3 v4 v9 v10 v11 v12 v13 : Option Dv} {R : Ct → Sto → Prop}
    (hR : ∀ (ds2 : List Dv) (v9 : Option Dv), (∀ e ∈ ds2, FB e) → ds2.length = ds.length + 8 → R (.next [v0, v1, some (.tup (lots.map .str)), v3, v4, some (.str one), some (.str other), some (.tup (lw.map .str)), some (.loc (r.length + os.length + 1)), v9, v10, v11, v12, v13]) (tapOb t :: (r ++ (os ++ [.lst ds2])))) :
    OkE nX (b [v0, v1, some (.tup (lots.map .str)), v3, v4, some (.str one), some (.str other), some (.tup (lw.map .str)), some (.loc (r.length + os.length + 1)), v9, v10, v11, v12, v13] (tapOb t :: (r ++ (os ++ [.lst ds])))) R := by
  subst hb
  obtain ⟨hna, hq⟩ := na_ok
  unfold bTg4
  generalize Str.ofString "q" = q at hq
  have hlw : Bd 2 18 (.tup (lw.map .str)) := bd_strs (k := 8) (m := 2) h.hlw (by decide) h.lw2 (by decide)
  have hlr : Bd 2 18 (.tup (lw.map Dv.str).reverse) := by
    rw [← List.map_reverse]
    exact bd_strs (k := 8) (m := 2) (fun x hx => h.hlw x (List.mem_reverse.mp hx)) (by decide) (by rw [List.length_reverse]; exact h.lw2) (by decide)
  have s1 := bd_str (k := 8) h.hone (by decide)
  have s2 := bd_str (k := 8) h.hother (by decide)
  have s3 := bd_str (k := 8) hq (by decide)
  have hx : ∀ e ∈ [Dv.tup [.str one], .tup [.str other], .tup (lw.map .str), .tup (lw.map Dv.str).reverse, .tup [.str other, .str other], .tup [.str q], .ls [.str other], .str other], Bd 2 20 e := by
    intro e he
    simp only [List.mem_cons, List.not_mem_nil, or_false] at he
    rcases he with rfl | rfl | rfl | rfl | rfl | rfl | rfl | rfl
    · exact (bd1 s1).up (by decide) (by decide)
    · exact (bd1 s2).up (by decide) (by decide)
    · exact hlw.up (by decide) (by decide)
    · exact hlr.up (by decide) (by decide)
    · exact (bd2 s2 s2).up (by decide) (by decide)
    · exact (bd1 s3).up (by decide) (by decide)
    · exact (Bd.ls (m := 1) (fun e he => by rw [List.mem_singleton.mp he]; exact s2) (by simp)).up (by decide) (by decide)
    · exact s2.up (by decide) (by decide)
  simp only [Y1,Qf,Qt,Qu,Qa,Qg,Qv,Qw,Qx,Qy,Qh,Qz,Jy,Qi,Qb,Qj,Qk,Q0,Jz,Q1,Q2,J0,Q3,Q4,J1,Ql,Qm,Qn,Q5,Qo,Q6,Qp,Q7,Q8,J2,Q9,Ja,J3,J4,J5,Jb,J6,J7,Jc,J8,J9,Jd,Je,Ya,Jf,Yb,Jg,Jh,Y8,Yc,Ji,Yd,Ye,Yf,Yg,Yh,Y2,Jj,Qq,Jk,Yi,Jl,Jm,Yj,Y3,Yk,Yl,Y4,Ym,Y5,Yn,Qc,Yo,Jn,Yp,Yq,Y6,Yr,Qd,Jo,Jp,Y7,Ys,Yt,Yu,Yv,Yw,Yx,Jq,Jr,Qr,Js,Yy,Qe,Qs,List.set_cons_zero,List.set_cons_succ,List.map_cons,List.map_nil,List.replicate,List.cons_append,List.nil_append,List.length_cons,List.length_nil,Bool.false_eq_true,eq_self,if_true,if_false,Nat.zero_add,Jt,Yz,Ju,Jv,Jw,Y0,Jx,true_and,ok_revT,kRevT_tup]
  repeat (refine ⟨by decide, ?_⟩)
  have hxl : [Dv.tup [.str one], .tup [.str other], .tup (lw.map .str), .tup (lw.map Dv.str).reverse, .tup [.str other, .str other], .tup [.str q], .ls [.str other], .str other].length = 8 := rfl
  generalize [Dv.tup [.str one], .tup [.str other], .tup (lw.map .str), .tup (lw.map Dv.str).reverse, .tup [.str other, .str other], .tup [.str q], .ls [.str other], .str other] = xs at hx hxl
  refine ok_loop (fun i env s' => ∃ (es : List Dv) (v9 : Option Dv), env = [v0, v1, some (.tup (lots.map .str)), v3, v4, some (.str one), some (.str other), some (.tup (lw.map .str)), some (.loc (r.length + os.length + 1)), v9, v10, v11, v12, v13] ∧ s' = tapOb t :: (r ++ (os ++ [.lst es])) ∧ (∀ e ∈ es, FB e) ∧ es.length = ds.length + i)
    (fun _ _ _ _ => rfl) (fun i d env s' hd q => ?_) (fun env s' q => ?_) ⟨ds, _, rfl, rfl, hds, rfl⟩
  · obtain ⟨es, v9, rfl, rfl, h1, h2⟩ := q
    have hi := (List.getElem?_eq_some_iff.mp hd).1
    have hd := hx d (List.mem_of_getElem? hd)
    simp only [Y1,Qf,Qt,Qu,Qa,Qg,Qv,Qw,Qx,Qy,Qh,Qz,Jy,Qi,Qb,Qj,Qk,Q0,Jz,Q1,Q2,J0,Q3,Q4,J1,Ql,Qm,Qn,Q5,Qo,Q6,Qp,Q7,Q8,J2,Q9,Ja,J3,J4,J5,Jb,J6,J7,Jc,J8,J9,Jd,Je,Ya,Jf,Yb,Jg,Jh,Y8,Yc,Ji,Yd,Ye,Yf,Yg,Yh,Y2,Jj,Qq,Jk,Yi,Jl,Jm,Yj,Y3,Yk,Yl,Y4,Ym,Y5,Yn,Qc,Yo,Jn,Yp,Yq,Y6,Yr,Qd,Jo,Jp,Y7,Ys,Yt,Yu,Yv,Yw,Yx,Jq,Jr,Qr,Js,Yy,Qe,Qs,List.set_cons_zero,List.set_cons_succ,List.map_cons,List.map_nil,List.replicate,List.cons_append,List.nil_append,List.length_cons,List.length_nil,Bool.false_eq_true,eq_self,if_true,if_false,Nat.zero_add,Jt,Yz,Ju,Jv,Jw,Y0,Jx,true_and]
    refine ⟨isL_loc sA_get, ?_⟩
    repeat (refine ⟨by decide, ?_⟩)
    rw [append_loc sA_get (by omega), Y1, sA_set]
    simp only [Y1,Qf,Qt,Qu,Qa,Qg,Qv,Qw,Qx,Qy,Qh,Qz,Jy,Qi,Qb,Qj,Qk,Q0,Jz,Q1,Q2,J0,Q3,Q4,J1,Ql,Qm,Qn,Q5,Qo,Q6,Qp,Q7,Q8,J2,Q9,Ja,J3,J4,J5,Jb,J6,J7,Jc,J8,J9,Jd,Je,Ya,Jf,Yb,Jg,Jh,Y8,Yc,Ji,Yd,Ye,Yf,Yg,Yh,Y2,Jj,Qq,Jk,Yi,Jl,Jm,Yj,Y3,Yk,Yl,Y4,Ym,Y5,Yn,Qc,Yo,Jn,Yp,Yq,Y6,Yr,Qd,Jo,Jp,Y7,Ys,Yt,Yu,Yv,Yw,Yx,Jq,Jr,Qr,Js,Yy,Qe,Qs,List.set_cons_zero,List.set_cons_succ,List.map_cons,List.map_nil,List.replicate,List.cons_append,List.nil_append,List.length_cons,List.length_nil,Bool.false_eq_true,eq_self,if_true,if_false,Nat.zero_add,Jt,Yz,Ju,Jv,Jw,Y0,Jx,true_and]
    refine ⟨_, _, rfl, rfl, app_fb h1 ?_, by rw [List.length_append, List.length_singleton]; omega⟩
    exact bd_cnt ((lots_bd h).up (n2 := 4) (by decide) (Nat.le_refl _)) (bd1 (pile_bd h.hone (a := 3) (b := 1) (by decide) (by decide) (by decide) hd)) (bd_nil (n := 3)) (by decide) (by decide)
  · obtain ⟨es, v9, rfl, rfl, h1, h2⟩ := q
    exact hR _ _ h1 (by omega)
theorem tg5_spec {b : Fn Ct} (hb : b = bTg5) {lots lw : List Str} {ps qs : List Dv} {one other : Str} (h : CP lots ps qs one other lw) {t : Tap} {r os : Sto} {ds : List Dv} (hds : ∀ e ∈ ds, FB e) (hdl : ds.length ≤ 900) {v0 v1 v3 v4 v6 v9 v10 v11 v12 v13 : Option Dv} {R : Ct → Sto → Prop}
    (hR : ∀ (ds2 : List Dv) (v10 : Option Dv), (∀ e ∈ ds2, FB e) → ds2.length = ds.length + 7 → R (.next [v0, v1, some (.tup (lots.map .str)), v3, v4, some (.str one), v6, some (.tup (lw.map .str)), some (.loc (r.length + os.length + 1)), v9, v10, v11, v12, v13]) (tapOb t :: (r ++ (os ++ [.lst ds2])))) :
    OkE nX (b [v0, v1, some (.tup (lots.map .str)), v3, v4, some (.str one), v6, some (.tup (lw.map .str)), some (.loc (r.length + os.length + 1)), v9, v10, v11, v12, v13] (tapOb t :: (r ++ (os ++ [.lst ds])))) R := by
  subst hb
  obtain ⟨hna, hq⟩ := na_ok
  unfold bTg5
  generalize Str.ofString "q" = q at hq
  have hlw : Bd 2 18 (.tup (lw.map .str)) := bd_strs (k := 8) (m := 2) h.hlw (by decide) h.lw2 (by decide)
  have hlr : Bd 2 18 (.tup (lw.map Dv.str).reverse) := by
    rw [← List.map_reverse]
    exact bd_strs (k := 8) (m := 2) (fun x hx => h.hlw x (List.mem_reverse.mp hx)) (by decide) (by rw [List.length_reverse]; exact h.lw2) (by decide)
  have s1 := bd_str (k := 8) h.hone (by decide)
  have s3 := bd_str (k := 8) hq (by decide)
  have hx : ∀ e ∈ [Dv.tup (lw.map .str), .tup (lw.map Dv.str).reverse, .tup [], .tup [.str one], .tup [.str one, .str one], .ls [.str one], .tup [.str q]], Bd 2 20 e := by
    intro e he
    simp only [List.mem_cons, List.not_mem_nil, or_false] at he
    rcases he with rfl | rfl | rfl | rfl | rfl | rfl | rfl
    · exact hlw.up (by decide) (by decide)
    · exact hlr.up (by decide) (by decide)
    · exact (bd_nil (n := 1)).up (by decide) (by decide)
    · exact (bd1 s1).up (by decide) (by decide)
    · exact (bd2 s1 s1).up (by decide) (by decide)
    · exact (Bd.ls (m := 1) (fun e he => by rw [List.mem_singleton.mp he]; exact s1) (by simp)).up (by decide) (by decide)
    · exact (bd1 s3).up (by decide) (by decide)
  simp only [Y1,Qf,Qt,Qu,Qa,Qg,Qv,Qw,Qx,Qy,Qh,Qz,Jy,Qi,Qb,Qj,Qk,Q0,Jz,Q1,Q2,J0,Q3,Q4,J1,Ql,Qm,Qn,Q5,Qo,Q6,Qp,Q7,Q8,J2,Q9,Ja,J3,J4,J5,Jb,J6,J7,Jc,J8,J9,Jd,Je,Ya,Jf,Yb,Jg,Jh,Y8,Yc,Ji,Yd,Ye,Yf,Yg,Yh,Y2,Jj,Qq,Jk,Yi,Jl,Jm,Yj,Y3,Yk,Yl,Y4,Ym,Y5,Yn,Qc,Yo,Jn,Yp,Yq,Y6,Yr,Qd,Jo,Jp,Y7,Ys,Yt,Yu,Yv,Yw,Yx,Jq,Jr,Qr,Js,Yy,Qe,Qs,List.set_cons_zero,List.set_cons_succ,List.map_cons,List.map_nil,List.replicate,List.cons_append,List.nil_append,List.length_cons,List.length_nil,Bool.false_eq_true,eq_self,if_true,if_false,Nat.zero_add,Jt,Yz,Ju,Jv,Jw,Y0,Jx,true_and,ok_revT,kRevT_tup]
  repeat (refine ⟨by decide, ?_⟩)
  have hxl : [Dv.tup (lw.map .str), .tup (lw.map Dv.str).reverse, .tup [], .tup [.str one], .tup [.str one, .str one], .ls [.str one], .tup [.str q]].length = 7 := rfl
  generalize [Dv.tup (lw.map .str), .tup (lw.map Dv.str).reverse, .tup [], .tup [.str one], .tup [.str one, .str one], .ls [.str one], .tup [.str q]] = xs at hx hxl
  refine ok_loop (fun i env s' => ∃ (es : List Dv) (v10 : Option Dv), env = [v0, v1, some (.tup (lots.map .str)), v3, v4, some (.str one), v6, some (.tup (lw.map .str)), some (.loc (r.length + os.length + 1)), v9, v10, v11, v12, v13] ∧ s' = tapOb t :: (r ++ (os ++ [.lst es])) ∧ (∀ e ∈ es, FB e) ∧ es.length = ds.length + i)
    (fun _ _ _ _ => rfl) (fun i d env s' hd q => ?_) (fun env s' q => ?_) ⟨ds, _, rfl, rfl, hds, rfl⟩
  · obtain ⟨es, v10, rfl, rfl, h1, h2⟩ := q
    have hi := (List.getElem?_eq_some_iff.mp hd).1
    have hd := hx d (List.mem_of_getElem? hd)
    simp only [Y1,Qf,Qt,Qu,Qa,Qg,Qv,Qw,Qx,Qy,Qh,Qz,Jy,Qi,Qb,Qj,Qk,Q0,Jz,Q1,Q2,J0,Q3,Q4,J1,Ql,Qm,Qn,Q5,Qo,Q6,Qp,Q7,Q8,J2,Q9,Ja,J3,J4,J5,Jb,J6,J7,Jc,J8,J9,Jd,Je,Ya,Jf,Yb,Jg,Jh,Y8,Yc,Ji,Yd,Ye,Yf,Yg,Yh,Y2,Jj,Qq,Jk,Yi,Jl,Jm,Yj,Y3,Yk,Yl,Y4,Ym,Y5,Yn,Qc,Yo,Jn,Yp,Yq,Y6,Yr,Qd,Jo,Jp,Y7,Ys,Yt,Yu,Yv,Yw,Yx,Jq,Jr,Qr,Js,Yy,Qe,Qs,List.set_cons_zero,List.set_cons_succ,List.map_cons,List.map_nil,List.replicate,List.cons_append,List.nil_append,List.length_cons,List.length_nil,Bool.false_eq_true,eq_self,if_true,if_false,Nat.zero_add,Jt,Yz,Ju,Jv,Jw,Y0,Jx,true_and]
    refine ⟨isL_loc sA_get, ?_⟩
    repeat (refine ⟨by decide, ?_⟩)
    rw [append_loc sA_get (by omega), Y1, sA_set]
    simp only [Y1,Qf,Qt,Qu,Qa,Qg,Qv,Qw,Qx,Qy,Qh,Qz,Jy,Qi,Qb,Qj,Qk,Q0,Jz,Q1,Q2,J0,Q3,Q4,J1,Ql,Qm,Qn,Q5,Qo,Q6,Qp,Q7,Q8,J2,Q9,Ja,J3,J4,J5,Jb,J6,J7,Jc,J8,J9,Jd,Je,Ya,Jf,Yb,Jg,Jh,Y8,Yc,Ji,Yd,Ye,Yf,Yg,Yh,Y2,Jj,Qq,Jk,Yi,Jl,Jm,Yj,Y3,Yk,Yl,Y4,Ym,Y5,Yn,Qc,Yo,Jn,Yp,Yq,Y6,Yr,Qd,Jo,Jp,Y7,Ys,Yt,Yu,Yv,Yw,Yx,Jq,Jr,Qr,Js,Yy,Qe,Qs,List.set_cons_zero,List.set_cons_succ,List.map_cons,List.map_nil,List.replicate,List.cons_append,List.nil_append,List.length_cons,List.length_nil,Bool.false_eq_true,eq_self,if_true,if_false,Nat.zero_add,Jt,Yz,Ju,Jv,Jw,Y0,Jx,true_and]
    refine ⟨_, _, rfl, rfl, app_fb h1 ?_, by rw [List.length_append, List.length_singleton]; omega⟩
    exact bd_cnt ((lots_bd h).up (n2 := 3) (by decide) (Nat.le_refl _)) (bd_nil (n := 2)) (bd2 hlw hd) (by decide) (by decide)
  · obtain ⟨es, v10, rfl, rfl, h1, h2⟩ := q
    exact hR _ _ h1 (by omega)
end Z

namespace Z
open PySem PySem.Spec L2

theorem sA_len2 {r os : Sto} {ds : List Dv} : (r ++ (os ++ [Ob.lst ds])).length + 1 = r.length + (os ++ [Ob.lst ds]).length + 1 := by
  rw [List.length_append]
theorem sA_new2 {r os : Sto} {ds es : List Dv} : r ++ (os ++ [Ob.lst ds]) ++ [.lst es] = r ++ ((os ++ [.lst ds]) ++ [.lst es]) := List.append_assoc ..
theorem app2_fb {ds : List Dv} {a b : Dv} (h : ∀ e ∈ ds, FB e) (ha : FB a) (hb : FB b) : ∀ e ∈ ds ++ [a, b], FB e := fun e he => (List.mem_append.mp he).elim (h e) fun h => by
  simp only [List.mem_cons, List.not_mem_nil, or_false] at h
  rcases h with rfl | rfl
  · exact ha
  · exact hb
theorem tg6_spec {b : Fn Ct} (hb : b = bTg6) {lots lw : List Str} {ps qs : List Dv} {one other : Str} (h : CP lots ps qs one other lw) {t : Tap} {r os : Sto} (ho : Fl os) {ds : List Dv} (hds : ∀ e ∈ ds, FB e) (hdl : ds.length ≤ 900) {v0 v1 v3 v4 v6 v7 v9 v10 v11 v12 v13 : Option Dv} {R : Ct → Sto → Prop}
    (hR : ∀ (os2 : Sto) (ds2 : List Dv) (v11 : Option Dv), Fl os2 → (∀ e ∈ ds2, FB e) → ds2.length = ds.length + 10 → R (.next [v0, v1, some (.tup (lots.map .str)), v3, v4, some (.str one), v6, v7, some (.loc (r.length + os2.length + 1)), v9, v10, v11, v12, v13]) (tapOb t :: (r ++ (os2 ++ [.lst ds2])))) :
    OkE nX (b [v0, v1, some (.tup (lots.map .str)), v3, v4, some (.str one), v6, v7, some (.loc (r.length + os.length + 1)), v9, v10, v11, v12, v13] (tapOb t :: (r ++ (os ++ [.lst ds])))) R := by
  subst hb
  unfold bTg6
  have ep : ∀ s : Sto, gPow (.int 10) (.int 50) s = .ok (.int (10 ^ 50)) s := fun s => pow_ok (by decide) (by decide)
  have hx : ∀ e ∈ [Dv.int 0, .int (-1), .bl true, .non, .int (10 ^ 50)], Bd 2 334 e := by
    intro e he
    simp only [List.mem_cons, List.not_mem_nil, or_false] at he
    rcases he with rfl | rfl | rfl | rfl | rfl
    · exact (bd_int (by decide)).up (by decide) (by decide)
    · exact (bd_int (by decide)).up (by decide) (by decide)
    · exact bd_bl.up (by decide) (by decide)
    · exact bd_non.up (by decide) (by decide)
    · exact (bd_int (by decide +kernel)).up (by decide) (by decide)
  simp only [Y1,Qf,Qt,Qu,Qa,Qg,Qv,Qw,Qx,Qy,Qh,Qz,Jy,Qi,Qb,Qj,Qk,Q0,Jz,Q1,Q2,J0,Q3,Q4,J1,Ql,Qm,Qn,Q5,Qo,Q6,Qp,Q7,Q8,J2,Q9,Ja,J3,J4,J5,Jb,J6,J7,Jc,J8,J9,Jd,Je,Ya,Jf,Yb,Jg,Jh,Y8,Yc,Ji,Yd,Ye,Yf,Yg,Yh,Y2,Jj,Qq,Jk,Yi,Jl,Jm,Yj,Y3,Yk,Yl,Y4,Ym,Y5,Yn,Qc,Yo,Jn,Yp,Yq,Y6,Yr,Qd,Jo,Jp,Y7,Ys,Yt,Yu,Yv,Yw,Yx,Jq,Jr,Qr,Js,Yy,Qe,Qs,List.set_cons_zero,List.set_cons_succ,List.map_cons,List.map_nil,List.replicate,List.cons_append,List.nil_append,List.length_cons,List.length_nil,Bool.false_eq_true,eq_self,if_true,if_false,Nat.zero_add,Jt,Yz,Ju,Jv,Jw,Y0,Jx,true_and,neg_intD,ep]
  repeat (refine ⟨by decide, ?_⟩)
  have hxl : [Dv.int 0, .int (-1), .bl true, .non, .int (10 ^ 50)].length = 5 := rfl
  generalize [Dv.int 0, .int (-1), .bl true, .non, .int (10 ^ 50)] = xs at hx hxl
  refine ok_loop (fun i env s' => ∃ (os2 : Sto) (es : List Dv) (v11 : Option Dv), env = [v0, v1, some (.tup (lots.map .str)), v3, v4, some (.str one), v6, v7, some (.loc (r.length + os2.length + 1)), v9, v10, v11, v12, v13] ∧ s' = tapOb t :: (r ++ (os2 ++ [.lst es])) ∧ Fl os2 ∧ (∀ e ∈ es, FB e) ∧ es.length = ds.length + 2 * i)
    (fun _ _ _ _ => rfl) (fun i d env s' hd q => ?_) (fun env s' q => ?_) ⟨os, ds, _, rfl, rfl, ho, hds, rfl⟩
  · obtain ⟨os2, es, v11, rfl, rfl, h0, h1, h2⟩ := q
    have hi := (List.getElem?_eq_some_iff.mp hd).1
    have hd := hx d (List.mem_of_getElem? hd)
    simp only [Y1,Qf,Qt,Qu,Qa,Qg,Qv,Qw,Qx,Qy,Qh,Qz,Jy,Qi,Qb,Qj,Qk,Q0,Jz,Q1,Q2,J0,Q3,Q4,J1,Ql,Qm,Qn,Q5,Qo,Q6,Qp,Q7,Q8,J2,Q9,Ja,J3,J4,J5,Jb,J6,J7,Jc,J8,J9,Jd,Je,Ya,Jf,Yb,Jg,Jh,Y8,Yc,Ji,Yd,Ye,Yf,Yg,Yh,Y2,Jj,Qq,Jk,Yi,Jl,Jm,Yj,Y3,Yk,Yl,Y4,Ym,Y5,Yn,Qc,Yo,Jn,Yp,Yq,Y6,Yr,Qd,Jo,Jp,Y7,Ys,Yt,Yu,Yv,Yw,Yx,Jq,Jr,Qr,Js,Yy,Qe,Qs,List.set_cons_zero,List.set_cons_succ,List.map_cons,List.map_nil,List.replicate,List.cons_append,List.nil_append,List.length_cons,List.length_nil,Bool.false_eq_true,eq_self,if_true,if_false,Nat.zero_add,Jt,Yz,Ju,Jv,Jw,Y0,Jx,true_and,ok_catL,kCat_ap]
    rw [kCat2_loc sA_get]
    repeat (refine ⟨by decide, ?_⟩)
    refine ⟨decide_eq_true (by simp only [List.length_cons, List.length_nil]; omega), ?_⟩
    simp only [Y1,Qf,Qt,Qu,Qa,Qg,Qv,Qw,Qx,Qy,Qh,Qz,Jy,Qi,Qb,Qj,Qk,Q0,Jz,Q1,Q2,J0,Q3,Q4,J1,Ql,Qm,Qn,Q5,Qo,Q6,Qp,Q7,Q8,J2,Q9,Ja,J3,J4,J5,Jb,J6,J7,Jc,J8,J9,Jd,Je,Ya,Jf,Yb,Jg,Jh,Y8,Yc,Ji,Yd,Ye,Yf,Yg,Yh,Y2,Jj,Qq,Jk,Yi,Jl,Jm,Yj,Y3,Yk,Yl,Y4,Ym,Y5,Yn,Qc,Yo,Jn,Yp,Yq,Y6,Yr,Qd,Jo,Jp,Y7,Ys,Yt,Yu,Yv,Yw,Yx,Jq,Jr,Qr,Js,Yy,Qe,Qs,List.set_cons_zero,List.set_cons_succ,List.map_cons,List.map_nil,List.replicate,List.cons_append,List.nil_append,List.length_cons,List.length_nil,Bool.false_eq_true,eq_self,if_true,if_false,Nat.zero_add,Jt,Yz,Ju,Jv,Jw,Y0,Jx,true_and]
    rw [sA_len2, sA_new2]
    have z0 : Bd 2 334 (.int 0) := (bd_int (by decide)).up (by decide) (by decide)
    have z1 : Bd 2 8 (.str one) := (bd_str (k := 8) h.hone (by decide)).up (by decide) (by decide)
    have hL := (lots_bd h).up (n2 := 4) (by decide) (Nat.le_refl _)
    exact ⟨_, _, _, rfl, rfl, h0.app (Fl.one (fb_below h1)), app2_fb h1 (bd_cnt hL (bd1 (bd4 z1 hd z0 (bd_nil (n := 1)))) (bd_nil (n := 3)) (by decide) (by decide)) (bd_cnt hL (bd1 (bd4 z1 z0 hd (bd_nil (n := 1)))) (bd_nil (n := 3)) (by decide) (by decide)), by simp only [List.length_append, List.length_cons, List.length_nil]; omega⟩
  · obtain ⟨os2, es, v11, rfl, rfl, h0, h1, h2⟩ := q
    exact hR _ _ _ h0 h1 (by omega)
theorem md_fb {m k n w l : Nat} {d : Dv} (h : Md m k n w d) (ht : tn d ≤ l) (hm : m < 10 ^ 100) (hk : k ≤ 4096) (hn : n ≤ 30) (hw : w ≤ 160000) (hl : l ≤ 4000) : FB d := ⟨gb_up (gp_gb hm hk h.g) hn, Nat.le_trans h.w hw, Nat.le_trans ht hl⟩
theorem tg7_spec {φb : Phi} {b : Fn Ct} (hb : b = bTg7 φb) (hB : BendSN 5 φb) {C : Dv} (hC : Md (10 ^ 50) 101 5 8000 C) (hCt : tn C ≤ 12) {t : Tap} {r os : Sto} (hf : Fl r) (ho : Fl os) (hw : t.Wf) (hc : t.calls + 1000 ≤ 1000000) {ds : List Dv} (hds : ∀ e ∈ ds, FB e) (hdl : ds.length ≤ 900) {v2 v3 v4 v5 v6 v7 v9 v10 v11 v12 v13 : Option Dv} {R : Ct → Sto → Prop}
    (hR : ∀ (t' : Tap) (os2 : Sto) (ds2 : List Dv) (v12 v13 : Option Dv), t'.Wf → t.calls ≤ t'.calls → t'.calls ≤ t.calls + 400 → Fl os2 → (∀ e ∈ ds2, FB e) → ds2.length = ds.length + 16 → R (.next [some (.loc 0), some C, v2, v3, v4, v5, v6, v7, some (.loc (r.length + os2.length + 1)), v9, v10, v11, v12, v13]) (tapOb t' :: (r ++ (os2 ++ [.lst ds2])))) :
    OkE nX (b [some (.loc 0), some C, v2, v3, v4, v5, v6, v7, some (.loc (r.length + os.length + 1)), v9, v10, v11, v12, v13] (tapOb t :: (r ++ (os ++ [.lst ds])))) R := by
  subst hb
  unfold bTg7
  simp only [Y1,Qf,Qt,Qu,Qa,Qg,Qv,Qw,Qx,Qy,Qh,Qz,Jy,Qi,Qb,Qj,Qk,Q0,Jz,Q1,Q2,J0,Q3,Q4,J1,Ql,Qm,Qn,Q5,Qo,Q6,Qp,Q7,Q8,J2,Q9,Ja,J3,J4,J5,Jb,J6,J7,Jc,J8,J9,Jd,Je,Ya,Jf,Yb,Jg,Jh,Y8,Yc,Ji,Yd,Ye,Yf,Yg,Yh,Y2,Jj,Qq,Jk,Yi,Jl,Jm,Yj,Y3,Yk,Yl,Y4,Ym,Y5,Yn,Qc,Yo,Jn,Yp,Yq,Y6,Yr,Qd,Jo,Jp,Y7,Ys,Yt,Yu,Yv,Yw,Yx,Jq,Jr,Qr,Js,Yy,Qe,Qs,List.set_cons_zero,List.set_cons_succ,List.map_cons,List.map_nil,List.replicate,List.cons_append,List.nil_append,List.length_cons,List.length_nil,Bool.false_eq_true,eq_self,if_true,if_false,Nat.zero_add,Jt,Yz,Ju,Jv,Jw,Y0,Jx,true_and]
  refine ⟨by decide, ?_⟩
  refine ok_loop (fun i env s' => ∃ (t' : Tap) (os2 : Sto) (es : List Dv) (v12 v13 : Option Dv), env = [some (.loc 0), some C, v2, v3, v4, v5, v6, v7, some (.loc (r.length + os2.length + 1)), v9, v10, v11, v12, v13] ∧ s' = tapOb t' :: (r ++ (os2 ++ [.lst es])) ∧ t'.Wf ∧ t.calls ≤ t'.calls ∧ t'.calls ≤ t.calls + 50 * i ∧ Fl os2 ∧ (∀ e ∈ es, FB e) ∧ es.length = ds.length + 2 * i)
    (fun _ _ _ _ => rfl) (fun i d env s' hd q => ?_) (fun env s' q => ?_) ⟨t, os, ds, _, _, rfl, rfl, hw, Int.le_refl _, by omega, ho, hds, rfl⟩
  · obtain ⟨t1, os2, es, v12, v13, rfl, rfl, hw1, hg1, hl1, h0, h1, h2⟩ := q
    obtain ⟨hi, rfl⟩ := rngD_get hd
    have hi : i < 8 := hi
    have p1 : (10 : Nat) ^ 50 + 1 < 10 ^ 99 := by decide +kernel
    have p0 : (10 : Nat) ^ 50 < 10 ^ 99 := by decide +kernel
    have q1 : (10 : Nat) ^ 50 + 1 < 10 ^ 100 := by decide +kernel
    have q2 : (10 : Nat) ^ 50 + 1 + 1 < 10 ^ 100 := by decide +kernel
    have hf2 := fb_fl hf h0 h1
    simp only [Y1,Qf,Qt,Qu,Qa,Qg,Qv,Qw,Qx,Qy,Qh,Qz,Jy,Qi,Qb,Qj,Qk,Q0,Jz,Q1,Q2,J0,Q3,Q4,J1,Ql,Qm,Qn,Q5,Qo,Q6,Qp,Q7,Q8,J2,Q9,Ja,J3,J4,J5,Jb,J6,J7,Jc,J8,J9,Jd,Je,Ya,Jf,Yb,Jg,Jh,Y8,Yc,Ji,Yd,Ye,Yf,Yg,Yh,Y2,Jj,Qq,Jk,Yi,Jl,Jm,Yj,Y3,Yk,Yl,Y4,Ym,Y5,Yn,Qc,Yo,Jn,Yp,Yq,Y6,Yr,Qd,Jo,Jp,Y7,Ys,Yt,Yu,Yv,Yw,Yx,Jq,Jr,Qr,Js,Yy,Qe,Qs,List.set_cons_zero,List.set_cons_succ,List.map_cons,List.map_nil,List.replicate,List.cons_append,List.nil_append,List.length_cons,List.length_nil,Bool.false_eq_true,eq_self,if_true,if_false,Nat.zero_add,Jt,Yz,Ju,Jv,Jw,Y0,Jx,true_and]
    refine (hB 12 (10 ^ 50) 101 5 8000 t1 _ C 4 ⟨Nat.le_refl _, p0, by omega, by omega, by omega, by omega, by omega⟩ hw1 (by omega) hf2 (by decide) (by decide) hC hCt).mono ?_
    rintro d1 s ⟨t2, g1, g2, rfl, hw2, hg2, hl2⟩
    simp only [Y1,Qf,Qt,Qu,Qa,Qg,Qv,Qw,Qx,Qy,Qh,Qz,Jy,Qi,Qb,Qj,Qk,Q0,Jz,Q1,Q2,J0,Q3,Q4,J1,Ql,Qm,Qn,Q5,Qo,Q6,Qp,Q7,Q8,J2,Q9,Ja,J3,J4,J5,Jb,J6,J7,Jc,J8,J9,Jd,Je,Ya,Jf,Yb,Jg,Jh,Y8,Yc,Ji,Yd,Ye,Yf,Yg,Yh,Y2,Jj,Qq,Jk,Yi,Jl,Jm,Yj,Y3,Yk,Yl,Y4,Ym,Y5,Yn,Qc,Yo,Jn,Yp,Yq,Y6,Yr,Qd,Jo,Jp,Y7,Ys,Yt,Yu,Yv,Yw,Yx,Jq,Jr,Qr,Js,Yy,Qe,Qs,List.set_cons_zero,List.set_cons_succ,List.map_cons,List.map_nil,List.replicate,List.cons_append,List.nil_append,List.length_cons,List.length_nil,Bool.false_eq_true,eq_self,if_true,if_false,Nat.zero_add,Jt,Yz,Ju,Jv,Jw,Y0,Jx,true_and,ok_catL,kCat_ap]
    refine (hB 37 (10 ^ 50 + 1) 304 7 24400 t2 _ d1 4 ⟨Nat.le_succ _, p1, by omega, by omega, by omega, by omega, by omega⟩ hw2 (by omega) hf2 (by decide) (by decide) g1 g2).mono ?_
    rintro d2 s ⟨t3, k1, k2, rfl, hw3, hg3, hl3⟩
    simp only [Y1,Qf,Qt,Qu,Qa,Qg,Qv,Qw,Qx,Qy,Qh,Qz,Jy,Qi,Qb,Qj,Qk,Q0,Jz,Q1,Q2,J0,Q3,Q4,J1,Ql,Qm,Qn,Q5,Qo,Q6,Qp,Q7,Q8,J2,Q9,Ja,J3,J4,J5,Jb,J6,J7,Jc,J8,J9,Jd,Je,Ya,Jf,Yb,Jg,Jh,Y8,Yc,Ji,Yd,Ye,Yf,Yg,Yh,Y2,Jj,Qq,Jk,Yi,Jl,Jm,Yj,Y3,Yk,Yl,Y4,Ym,Y5,Yn,Qc,Yo,Jn,Yp,Yq,Y6,Yr,Qd,Jo,Jp,Y7,Ys,Yt,Yu,Yv,Yw,Yx,Jq,Jr,Qr,Js,Yy,Qe,Qs,List.set_cons_zero,List.set_cons_succ,List.map_cons,List.map_nil,List.replicate,List.cons_append,List.nil_append,List.length_cons,List.length_nil,Bool.false_eq_true,eq_self,if_true,if_false,Nat.zero_add,Jt,Yz,Ju,Jv,Jw,Y0,Jx,true_and]
    rw [kCat2_loc sA_get]
    repeat (refine ⟨by decide, ?_⟩)
    refine ⟨decide_eq_true (by simp only [List.length_cons, List.length_nil]; omega), ?_⟩
    simp only [Y1,Qf,Qt,Qu,Qa,Qg,Qv,Qw,Qx,Qy,Qh,Qz,Jy,Qi,Qb,Qj,Qk,Q0,Jz,Q1,Q2,J0,Q3,Q4,J1,Ql,Qm,Qn,Q5,Qo,Q6,Qp,Q7,Q8,J2,Q9,Ja,J3,J4,J5,Jb,J6,J7,Jc,J8,J9,Jd,Je,Ya,Jf,Yb,Jg,Jh,Y8,Yc,Ji,Yd,Ye,Yf,Yg,Yh,Y2,Jj,Qq,Jk,Yi,Jl,Jm,Yj,Y3,Yk,Yl,Y4,Ym,Y5,Yn,Qc,Yo,Jn,Yp,Yq,Y6,Yr,Qd,Jo,Jp,Y7,Ys,Yt,Yu,Yv,Yw,Yx,Jq,Jr,Qr,Js,Yy,Qe,Qs,List.set_cons_zero,List.set_cons_succ,List.map_cons,List.map_nil,List.replicate,List.cons_append,List.nil_append,List.length_cons,List.length_nil,Bool.false_eq_true,eq_self,if_true,if_false,Nat.zero_add,Jt,Yz,Ju,Jv,Jw,Y0,Jx,true_and]
    rw [sA_len2, sA_new2]
    exact ⟨t3, _, _, _, _, rfl, rfl, hw3, by omega, by push_cast; omega, h0.app (Fl.one (fb_below h1)), app2_fb h1 (md_fb g1 g2 q1 (by decide) (by decide) (by decide) (by decide)) (md_fb k1 k2 q2 (by decide) (by decide) (by decide) (by decide)), by simp only [List.length_append, List.length_cons, List.length_nil]; omega⟩
  · obtain ⟨t1, os2, es, v12, v13, rfl, rfl, hw1, hg1, hl1, h0, h1, h2⟩ := q
    have e8 : (rngD 0 (Int.toNat 8)).length = 8 := rfl
    rw [show (rngD 0 (Int.toNat 8)).length = 8 from by rw [rngD_len]; rfl] at hl1 h2
    exact hR t1 _ _ _ _ hw1 hg1 (by omega) h0 h1 (by omega)
def ThingsQ5 (lo : Int) (r : Sto) (d : Dv) (s' : Sto) : Prop := ∃ (ds : List Dv) (t' : Tap), d = .ls ds ∧ (∀ e ∈ ds, FB e) ∧ ds.length ≤ 1000 ∧ s' = tapOb t' :: r ∧ t'.Wf ∧ lo ≤ t'.calls ∧ t'.calls ≤ lo + 500
theorem tg8_spec {φo : Phi} {b : Fn Ct} (hb : b = bTg8 φo) (hO : OddTN φo) {lots lw : List Str} {ps qs : List Dv} {one other : Str} (h : CP lots ps qs one other lw) {t : Tap} {r os : Sto} (hf : Fl r) (ho : Fl os) (hw : t.Wf) (hc : t.calls + 100 ≤ 1000000) {lo : Int} (hlo : lo ≤ t.calls) (hhi : t.calls ≤ lo + 450) {ds : List Dv} (hds : ∀ e ∈ ds, FB e) (hdl : ds.length ≤ 900) {v5 v6 v7 v9 v10 v11 v12 v13 : Option Dv} :
    OkE nX (b [some (.loc 0), some (.tup [.tup (lots.map .str), .tup ps, .tup qs]), some (.tup (lots.map .str)), some (.tup ps), some (.tup qs), v5, v6, v7, some (.loc (r.length + os.length + 1)), v9, v10, v11, v12, v13] (tapOb t :: (r ++ (os ++ [.lst ds])))) (finK nX (r.length + 1) (ThingsQ5 lo r)) := by
  subst hb
  unfold bTg8
  have pl := h.pl
  have ql := h.ql
  have hf2 := fb_fl hf ho hds
  simp only [Y1,Qf,Qt,Qu,Qa,Qg,Qv,Qw,Qx,Qy,Qh,Qz,Jy,Qi,Qb,Qj,Qk,Q0,Jz,Q1,Q2,J0,Q3,Q4,J1,Ql,Qm,Qn,Q5,Qo,Q6,Qp,Q7,Q8,J2,Q9,Ja,J3,J4,J5,Jb,J6,J7,Jc,J8,J9,Jd,Je,Ya,Jf,Yb,Jg,Jh,Y8,Yc,Ji,Yd,Ye,Yf,Yg,Yh,Y2,Jj,Qq,Jk,Yi,Jl,Jm,Yj,Y3,Yk,Yl,Y4,Ym,Y5,Yn,Qc,Yo,Jn,Yp,Yq,Y6,Yr,Qd,Jo,Jp,Y7,Ys,Yt,Yu,Yv,Yw,Yx,Jq,Jr,Qr,Js,Yy,Qe,Qs,List.set_cons_zero,List.set_cons_succ,List.map_cons,List.map_nil,List.replicate,List.cons_append,List.nil_append,List.length_cons,List.length_nil,Bool.false_eq_true,eq_self,if_true,if_false,Nat.zero_add,Jt,Yz,Ju,Jv,Jw,Y0,Jx,true_and,ok_catL,kCat_ap]
  refine (hO t _ hw (by omega) hf2).mono ?_
  rintro d1 s ⟨t2, ⟨g1, g2⟩, rfl, hw2, hc2⟩
  simp only [Y1,Qf,Qt,Qu,Qa,Qg,Qv,Qw,Qx,Qy,Qh,Qz,Jy,Qi,Qb,Qj,Qk,Q0,Jz,Q1,Q2,J0,Q3,Q4,J1,Ql,Qm,Qn,Q5,Qo,Q6,Qp,Q7,Q8,J2,Q9,Ja,J3,J4,J5,Jb,J6,J7,Jc,J8,J9,Jd,Je,Ya,Jf,Yb,Jg,Jh,Y8,Yc,Ji,Yd,Ye,Yf,Yg,Yh,Y2,Jj,Qq,Jk,Yi,Jl,Jm,Yj,Y3,Yk,Yl,Y4,Ym,Y5,Yn,Qc,Yo,Jn,Yp,Yq,Y6,Yr,Qd,Jo,Jp,Y7,Ys,Yt,Yu,Yv,Yw,Yx,Jq,Jr,Qr,Js,Yy,Qe,Qs,List.set_cons_zero,List.set_cons_succ,List.map_cons,List.map_nil,List.replicate,List.cons_append,List.nil_append,List.length_cons,List.length_nil,Bool.false_eq_true,eq_self,if_true,if_false,Nat.zero_add,Jt,Yz,Ju,Jv,Jw,Y0,Jx,true_and,show ∀ (ds : List Dv) (s : Sto),gList [.tup ds] s = .ok ds s from fun _ _ => rfl]
  repeat (refine ⟨by decide, ?_⟩)
  rw [kCat2_loc sA_get]
  repeat (refine ⟨by decide, ?_⟩)
  refine ⟨decide_eq_true (by simp only [List.length_cons, List.length_nil]; omega), ?_⟩
  simp only [Y1,Qf,Qt,Qu,Qa,Qg,Qv,Qw,Qx,Qy,Qh,Qz,Jy,Qi,Qb,Qj,Qk,Q0,Jz,Q1,Q2,J0,Q3,Q4,J1,Ql,Qm,Qn,Q5,Qo,Q6,Qp,Q7,Q8,J2,Q9,Ja,J3,J4,J5,Jb,J6,J7,Jc,J8,J9,Jd,Je,Ya,Jf,Yb,Jg,Jh,Y8,Yc,Ji,Yd,Ye,Yf,Yg,Yh,Y2,Jj,Qq,Jk,Yi,Jl,Jm,Yj,Y3,Yk,Yl,Y4,Ym,Y5,Yn,Qc,Yo,Jn,Yp,Yq,Y6,Yr,Qd,Jo,Jp,Y7,Ys,Yt,Yu,Yv,Yw,Yx,Jq,Jr,Qr,Js,Yy,Qe,Qs,List.set_cons_zero,List.set_cons_succ,List.map_cons,List.map_nil,List.replicate,List.cons_append,List.nil_append,List.length_cons,List.length_nil,Bool.false_eq_true,eq_self,if_true,if_false,Nat.zero_add,Jt,Yz,Ju,Jv,Jw,Y0,Jx,true_and]
  have hP := Bd.tup (m := 10) h.hps pl (by decide)
  have hPl := Bd.ls (m := 10) h.hps pl
  have hQ := Bd.tup (m := 12) h.hqs ql (by decide)
  have hL := lots_bd h
  have b1 : FB (.ls [.tup (lots.map .str), .tup ps, .tup qs]) := by
    refine (Bd.ls (n := 4) (w := 8000) (m := 3) (fun e he => ?_) (by simp)).up (by decide) (by decide)
    simp only [List.mem_cons, List.not_mem_nil, or_false] at he
    rcases he with rfl | rfl | rfl
    · exact hL.up (by decide) (by decide)
    · exact hP.up (by decide) (by decide)
    · exact hQ.up (by decide) (by decide)
  have b2 : FB (.tup [.tup (lots.map .str), .ls ps, .tup qs]) := bd_cnt (hL.up (n2 := 4) (by decide) (Nat.le_refl _)) hPl (hQ.up (by decide) (Nat.le_refl _)) (by decide) (by decide)
  have b0 : FB d1 := md_fb g1 g2 (by decide +kernel) (by decide) (by decide) (by decide) (by decide)
  have hall : ∀ e ∈ ds ++ [d1, .ls [.tup (lots.map .str), .tup ps, .tup qs], .tup [.tup (lots.map .str), .ls ps, .tup qs]], FB e := fun e he => (List.mem_append.mp he).elim (hds e) fun h => by
    simp only [List.mem_cons, List.not_mem_nil, or_false] at h
    rcases h with rfl | rfl | rfl
    · exact b0
    · exact b1
    · exact b2
  exact fin_tap hf (below_ls (fb_below hall)) ⟨_, t2, rfl, hall, by simp only [List.length_append, List.length_cons, List.length_nil]; omega, rfl, hw2, by omega, by omega⟩
def bTg26 (b3 b4 b5 b6 b7 b8 : Fn Ct) : Fn Ct :=
  fSeq (fAsg (fVar 1) (gTp 3 (gsCons (gNm 2) (gsCons (gNm 3) (gsCons (gNm 4) (gsNil))))))
  (fSeq (fPar3 5 6 7 (fCons (fBin gIx (fVar 2) (fC (.int 0))) (fCons (fBin gIx (fVar 2) (fC (.int 1))) (fCons (fCall gTuple (fCons (fVal (fCallL gSorted (fCons (fSl (fVar 2) (fNoPart) (fPart (fC (.int 2)))) (fNil)))) (fNil))) (fNil)))))
  (fSeq b3 (fSeq b4 (fSeq b5 (fSeq b6 (fSeq b7 b8))))))
theorem tn_strs {xs : List Str} {l : Nat} (h : xs.length ≤ l) : tn (.tup (xs.map .str)) ≤ l := tn_tup.mpr ⟨by rw [List.length_map]; exact h, fun e he => by
  obtain ⟨x, _, rfl⟩ := List.mem_map.mp he
  simp [tn]⟩
theorem others_le {c : Cnt} (hc : CntOk c) {p : Pil} (hp : p ∈ c.piles) : p.others.length ≤ 2 ∧ ∀ x ∈ p.others, x ∈ c.lots := by
  rcases (hc.piles p hp).others with h | ⟨ws, e, h1, _, h2⟩
  · rw [h]; simp
  · rw [e, srtS_len]
    exact ⟨h2, fun x hx => h1.subset ((srtS_perm ws).mem_iff.mp hx)⟩
theorem doubt_le {c : Cnt} (hc : CntOk c) {d : List Str} (hd : d ∈ c.doubts) : d.length ≤ 6 ∧ ∀ x ∈ d, x ∈ c.lots := by
  obtain ⟨ws, e, h1, _⟩ := hc.doubts d hd
  have := h1.length_le
  have := hc.len6
  rw [e, srtS_len]
  exact ⟨by omega, fun x hx => h1.subset ((srtS_perm ws).mem_iff.mp hx)⟩
theorem gp_strs {xs : List Str} (h : ∀ x ∈ xs, PyData.strOk x = true ∧ x.cps.size ≤ 8) {n : Nat} : gp (10 ^ 50) 101 (n + 2) (.tup (xs.map .str)) = true := by
  rw [gp_tup]
  refine gps_all fun e he => ?_
  obtain ⟨x, hx, rfl⟩ := List.mem_map.mp he
  have := h x hx
  exact gp_str.mpr ⟨this.1, by omega⟩
theorem cp_of {c : Cnt} (hc : CntOk c) {one other : Str} (h1 : one ∈ c.lots) (h2 : other ∈ c.lots) {lw : List Str} (hlw : ∀ x ∈ lw, x ∈ c.lots) (hl2 : lw.length ≤ 2) : CP c.lots (c.piles.map encP) (c.doubts.map encS) one other lw := by
  have wo : ∀ x ∈ c.lots, PyData.strOk x = true ∧ x.cps.size ≤ 8 := fun x hx => word_ok (hc.pool x hx)
  have l6 := hc.len6
  have np := hc.npiles
  have nd := hc.ndoubts
  have hp : ∀ p ∈ c.piles, Bd 3 700 (encP p) := fun p hp => by
    obtain ⟨o1, o2⟩ := others_le hc hp
    have k := hc.piles p hp
    have m0 := k.many0; have m1 := k.many1; have s0 := k.slip0; have s1 := k.slip1
    have big : (1000000 : Nat) ≤ 10 ^ 50 := by decide +kernel
    exact (bd4 ((bd_str (k := 8) (wo _ k.name) (by decide)).up (n2 := 2) (by decide) (Nat.le_refl _)) ((bd_int (show p.many.natAbs ≤ _ by omega)).up (by decide) (Nat.le_refl _)) ((bd_int (show p.slip.natAbs ≤ _ by omega)).up (by decide) (Nat.le_refl _)) (bd_strs (k := 8) (m := 2) (fun x hx => wo x (o2 x hx)) (by decide) o1 (by decide))).up (by decide) (by decide)
  have hq : ∀ d ∈ c.doubts, Bd 2 60 (encS d) := fun d hd => by
    obtain ⟨o1, o2⟩ := doubt_le hc hd
    exact (bd_strs (k := 8) (m := 6) (fun x hx => wo x (o2 x hx)) (by decide) o1 (by decide)).up (by decide) (by decide)
  have hps : ∀ p ∈ c.piles.map encP, Bd 3 700 p := fun p h => by
    obtain ⟨q, hm, rfl⟩ := List.mem_map.mp h
    exact hp q hm
  have hqs : ∀ p ∈ c.doubts.map encS, Bd 2 60 p := fun p h => by
    obtain ⟨q, hm, rfl⟩ := List.mem_map.mp h
    exact hq q hm
  have bL : Bd 2 54 (.tup (c.lots.map .str)) := bd_strs (k := 8) (m := 6) wo (by decide) l6 (by decide)
  have pl : (c.piles.map encP).length ≤ 10 := by rw [List.length_map]; exact np
  have ql : (c.doubts.map encS).length ≤ 12 := by rw [List.length_map]; exact nd
  have bC := bd3 (bL.up (n2 := 4) (by decide) (Nat.le_refl _)) (Bd.tup (m := 10) hps pl (by decide)) ((Bd.tup (m := 12) hqs ql (by decide)).up (n2 := 4) (by decide) (Nat.le_refl _))
  refine ⟨⟨wo, by omega⟩, l6, wo _ h1, wo _ h2, fun x hx => wo x (hlw x hx), hl2, hps, pl, hqs, ql, ⟨?_, Nat.le_trans bC.w (by decide)⟩, ?_⟩
  · rw [gp_tup]
    refine gps_all fun e he => ?_
    simp only [List.mem_cons, List.not_mem_nil, or_false] at he
    rcases he with rfl | rfl | rfl
    · exact gp_strs wo (n := 2)
    · rw [gp_tup]
      refine gps_all fun e he => ?_
      obtain ⟨p, hp, rfl⟩ := List.mem_map.mp he
      obtain ⟨o1, o2⟩ := others_le hc hp
      have k := hc.piles p hp
      have m0 := k.many0; have m1 := k.many1; have s0 := k.slip0; have s1 := k.slip1
      have big : (1000000 : Nat) ≤ 10 ^ 50 := by decide +kernel
      have wn := wo _ k.name
      unfold encP
      rw [gp_tup]
      simp only [gps, Bool.and_eq_true]
      exact ⟨gp_str.mpr ⟨wn.1, by omega⟩, gp_int.mpr (by omega), gp_int.mpr (by omega), gp_strs (fun x hx => wo x (o2 x hx)) (n := 0), trivial⟩
    · rw [gp_tup]
      refine gps_all fun e he => ?_
      obtain ⟨d, hd, rfl⟩ := List.mem_map.mp he
      obtain ⟨o1, o2⟩ := doubt_le hc hd
      exact gp_strs (fun x hx => wo x (o2 x hx)) (n := 1)
  · refine tn_tup.mpr ⟨by simp, fun e he => ?_⟩
    simp only [List.mem_cons, List.not_mem_nil, or_false] at he
    rcases he with rfl | rfl | rfl
    · exact tn_strs (by omega)
    · refine tn_tup.mpr ⟨by omega, fun e he => ?_⟩
      obtain ⟨p, hp, rfl⟩ := List.mem_map.mp he
      obtain ⟨o1, o2⟩ := others_le hc hp
      refine tn_tup.mpr ⟨by simp, fun e he => ?_⟩
      simp only [List.mem_cons, List.not_mem_nil, or_false] at he
      rcases he with rfl | rfl | rfl | rfl
      · simp [tn]
      · simp [tn]
      · simp [tn]
      · exact tn_strs (by omega)
    · refine tn_tup.mpr ⟨by omega, fun e he => ?_⟩
      obtain ⟨d, hd, rfl⟩ := List.mem_map.mp he
      exact tn_strs (by have := (doubt_le hc hd).1; omega)
def Things5 (φ : Phi) : Prop := ∀ (t : Tap) (r : Sto) (c : Cnt), t.Wf → t.calls + 2000 ≤ 1000000 → CntOk c → Fl r → OkE nX (φ [.loc 0, encC c] (tapOb t :: r)) (ThingsQ5 t.calls r)
theorem things26_spec {φb φo : Phi} {b3 b4 b5 b6 b7 b8 : Fn Ct} (h3 : b3 = bTg3) (h4 : b4 = bTg4) (h5 : b5 = bTg5) (h6 : b6 = bTg6) (h7 : b7 = bTg7 φb) (h8 : b8 = bTg8 φo) (hB : BendSN 5 φb) (hO : OddTN φo) : Things5 (fDef 2 14 (bTg26 b3 b4 b5 b6 b7 b8)) := by
  intro t r c hw hcl hc hf
  rw [ok_def]
  refine ⟨rfl, ?_⟩
  unfold bTg26
  have l2 := hc.len2
  have l6 := hc.len6
  obtain ⟨one, e0⟩ : ∃ z, c.lots[0]? = some z := ⟨_, List.getElem?_eq_getElem (by omega)⟩
  obtain ⟨other, e1⟩ : ∃ z, c.lots[1]? = some z := ⟨_, List.getElem?_eq_getElem (by omega)⟩
  have m0 := List.mem_of_getElem? e0
  have m1 := List.mem_of_getElem? e1
  have i0 : ∀ s : Sto, gIx (.tup (c.lots.map .str)) (.int 0) s = .ok (.str one) s := fun s => ix_tup (by decide) (by rw [show (0 : Int).toNat = 0 from rfl, List.getElem?_map, e0]; rfl)
  have i1 : ∀ s : Sto, gIx (.tup (c.lots.map .str)) (.int 1) s = .ok (.str other) s := fun s => ix_tup (by decide) (by rw [show (1 : Int).toNat = 1 from rfl, List.getElem?_map, e1]; rfl)
  have hcut : (cutX c.lots none (some 2)).length ≤ 2 := by
    unfold cutX
    rw [List.length_take]
    have : HT.sIx c.lots.length c.lots.length (some 2) ≤ 2 := by
      have : c.lots.length = 2 ∨ c.lots.length = 3 ∨ c.lots.length = 4 ∨ c.lots.length = 5 ∨ c.lots.length = 6 := by omega
      rcases this with h | h | h | h | h <;> rw [h] <;> decide
    omega
  have hCP := cp_of hc m0 m1 (lw := srtS (cutX c.lots none (some 2))) (fun x hx => cutX_mem ((srtS_perm _).mem_iff.mp hx)) (by rw [srtS_len]; exact hcut)
  show OkE nX (fSeq _ _ [some (.loc 0), some (.tup [.tup (c.lots.map .str), .tup (c.piles.map encP), .tup (c.doubts.map encS)]), none, none, none, none, none, none, none, none, none, none, none, none] _) _
  have es : ∀ s : Sto, gSl (.tup (c.lots.map .str)) none (some 2) s = .ok (.tup ((cutX c.lots none (some 2)).map .str)) s := fun s => slX
  generalize c.piles.map encP = ps at hCP
  generalize c.doubts.map encS = qs at hCP
  simp only [Y1,Qf,Qt,Qu,Qa,Qg,Qv,Qw,Qx,Qy,Qh,Qz,Jy,Qi,Qb,Qj,Qk,Q0,Jz,Q1,Q2,J0,Q3,Q4,J1,Ql,Qm,Qn,Q5,Qo,Q6,Qp,Q7,Q8,J2,Q9,Ja,J3,J4,J5,Jb,J6,J7,Jc,J8,J9,Jd,Je,Ya,Jf,Yb,Jg,Jh,Y8,Yc,Ji,Yd,Ye,Yf,Yg,Yh,Y2,Jj,Qq,Jk,Yi,Jl,Jm,Yj,Y3,Yk,Yl,Y4,Ym,Y5,Yn,Qc,Yo,Jn,Yp,Yq,Y6,Yr,Qd,Jo,Jp,Y7,Ys,Yt,Yu,Yv,Yw,Yx,Jq,Jr,Qr,Js,Yy,Qe,Qs,List.set_cons_zero,List.set_cons_succ,List.map_cons,List.map_nil,List.replicate,List.cons_append,List.nil_append,List.length_cons,List.length_nil,Bool.false_eq_true,eq_self,if_true,if_false,Nat.zero_add,Jt,Yz,Ju,Jv,Jw,Y0,Jx,true_and,ok_par3A,i0,i1,es,sorted_tup,tuple_ls,pr3A_mk]
  refine ⟨rfl, ?_⟩
  refine tg3_spec h3 hCP fun ds k1 k2 => ?_
  simp only [Y1,Qf,Qt,Qu,Qa,Qg,Qv,Qw,Qx,Qy,Qh,Qz,Jy,Qi,Qb,Qj,Qk,Q0,Jz,Q1,Q2,J0,Q3,Q4,J1,Ql,Qm,Qn,Q5,Qo,Q6,Qp,Q7,Q8,J2,Q9,Ja,J3,J4,J5,Jb,J6,J7,Jc,J8,J9,Jd,Je,Ya,Jf,Yb,Jg,Jh,Y8,Yc,Ji,Yd,Ye,Yf,Yg,Yh,Y2,Jj,Qq,Jk,Yi,Jl,Jm,Yj,Y3,Yk,Yl,Y4,Ym,Y5,Yn,Qc,Yo,Jn,Yp,Yq,Y6,Yr,Qd,Jo,Jp,Y7,Ys,Yt,Yu,Yv,Yw,Yx,Jq,Jr,Qr,Js,Yy,Qe,Qs,List.set_cons_zero,List.set_cons_succ,List.map_cons,List.map_nil,List.replicate,List.cons_append,List.nil_append,List.length_cons,List.length_nil,Bool.false_eq_true,eq_self,if_true,if_false,Nat.zero_add,Jt,Yz,Ju,Jv,Jw,Y0,Jx,true_and]
  refine tg4_spec (os := []) h4 hCP k1 (by omega) fun ds2 v9 k3 k4 => ?_
  simp only [Y1,Qf,Qt,Qu,Qa,Qg,Qv,Qw,Qx,Qy,Qh,Qz,Jy,Qi,Qb,Qj,Qk,Q0,Jz,Q1,Q2,J0,Q3,Q4,J1,Ql,Qm,Qn,Q5,Qo,Q6,Qp,Q7,Q8,J2,Q9,Ja,J3,J4,J5,Jb,J6,J7,Jc,J8,J9,Jd,Je,Ya,Jf,Yb,Jg,Jh,Y8,Yc,Ji,Yd,Ye,Yf,Yg,Yh,Y2,Jj,Qq,Jk,Yi,Jl,Jm,Yj,Y3,Yk,Yl,Y4,Ym,Y5,Yn,Qc,Yo,Jn,Yp,Yq,Y6,Yr,Qd,Jo,Jp,Y7,Ys,Yt,Yu,Yv,Yw,Yx,Jq,Jr,Qr,Js,Yy,Qe,Qs,List.set_cons_zero,List.set_cons_succ,List.map_cons,List.map_nil,List.replicate,List.cons_append,List.nil_append,List.length_cons,List.length_nil,Bool.false_eq_true,eq_self,if_true,if_false,Nat.zero_add,Jt,Yz,Ju,Jv,Jw,Y0,Jx,true_and]
  refine tg5_spec (os := []) h5 hCP k3 (by omega) fun ds3 v10 k5 k6 => ?_
  simp only [Y1,Qf,Qt,Qu,Qa,Qg,Qv,Qw,Qx,Qy,Qh,Qz,Jy,Qi,Qb,Qj,Qk,Q0,Jz,Q1,Q2,J0,Q3,Q4,J1,Ql,Qm,Qn,Q5,Qo,Q6,Qp,Q7,Q8,J2,Q9,Ja,J3,J4,J5,Jb,J6,J7,Jc,J8,J9,Jd,Je,Ya,Jf,Yb,Jg,Jh,Y8,Yc,Ji,Yd,Ye,Yf,Yg,Yh,Y2,Jj,Qq,Jk,Yi,Jl,Jm,Yj,Y3,Yk,Yl,Y4,Ym,Y5,Yn,Qc,Yo,Jn,Yp,Yq,Y6,Yr,Qd,Jo,Jp,Y7,Ys,Yt,Yu,Yv,Yw,Yx,Jq,Jr,Qr,Js,Yy,Qe,Qs,List.set_cons_zero,List.set_cons_succ,List.map_cons,List.map_nil,List.replicate,List.cons_append,List.nil_append,List.length_cons,List.length_nil,Bool.false_eq_true,eq_self,if_true,if_false,Nat.zero_add,Jt,Yz,Ju,Jv,Jw,Y0,Jx,true_and]
  refine tg6_spec (os := []) h6 hCP Fl.nil k5 (by omega) fun os2 ds4 v11 k7 k8 k9 => ?_
  simp only [Y1,Qf,Qt,Qu,Qa,Qg,Qv,Qw,Qx,Qy,Qh,Qz,Jy,Qi,Qb,Qj,Qk,Q0,Jz,Q1,Q2,J0,Q3,Q4,J1,Ql,Qm,Qn,Q5,Qo,Q6,Qp,Q7,Q8,J2,Q9,Ja,J3,J4,J5,Jb,J6,J7,Jc,J8,J9,Jd,Je,Ya,Jf,Yb,Jg,Jh,Y8,Yc,Ji,Yd,Ye,Yf,Yg,Yh,Y2,Jj,Qq,Jk,Yi,Jl,Jm,Yj,Y3,Yk,Yl,Y4,Ym,Y5,Yn,Qc,Yo,Jn,Yp,Yq,Y6,Yr,Qd,Jo,Jp,Y7,Ys,Yt,Yu,Yv,Yw,Yx,Jq,Jr,Qr,Js,Yy,Qe,Qs,List.set_cons_zero,List.set_cons_succ,List.map_cons,List.map_nil,List.replicate,List.cons_append,List.nil_append,List.length_cons,List.length_nil,Bool.false_eq_true,eq_self,if_true,if_false,Nat.zero_add,Jt,Yz,Ju,Jv,Jw,Y0,Jx,true_and]
  refine tg7_spec h7 hB hCP.md hCP.ht hf k7 hw (by omega) k8 (by omega) fun t' os3 ds5 v12 v13 q1 q2 q3 q4 q5 q6 => ?_
  simp only [Y1,Qf,Qt,Qu,Qa,Qg,Qv,Qw,Qx,Qy,Qh,Qz,Jy,Qi,Qb,Qj,Qk,Q0,Jz,Q1,Q2,J0,Q3,Q4,J1,Ql,Qm,Qn,Q5,Qo,Q6,Qp,Q7,Q8,J2,Q9,Ja,J3,J4,J5,Jb,J6,J7,Jc,J8,J9,Jd,Je,Ya,Jf,Yb,Jg,Jh,Y8,Yc,Ji,Yd,Ye,Yf,Yg,Yh,Y2,Jj,Qq,Jk,Yi,Jl,Jm,Yj,Y3,Yk,Yl,Y4,Ym,Y5,Yn,Qc,Yo,Jn,Yp,Yq,Y6,Yr,Qd,Jo,Jp,Y7,Ys,Yt,Yu,Yv,Yw,Yx,Jq,Jr,Qr,Js,Yy,Qe,Qs,List.set_cons_zero,List.set_cons_succ,List.map_cons,List.map_nil,List.replicate,List.cons_append,List.nil_append,List.length_cons,List.length_nil,Bool.false_eq_true,eq_self,if_true,if_false,Nat.zero_add,Jt,Yz,Ju,Jv,Jw,Y0,Jx,true_and]
  exact tg8_spec h8 hO hCP hf q4 q1 (by omega) q2 (by omega) q5 (by omega)
end Z

namespace Lwk05
open PySem PySem.Spec PyProof.Rows L2 Z
def topS (i : Nat) : Stmt := PySem.Challenge.pw_countbundles_k05_counts_by_kind.main.body.getD i (.Pass ⟨0, 0, 0, 0⟩)
def bs : List Str := ["isinstance", "int", "bool", "str", "len", "all", "tuple", "set", "range", "list", "sorted", "repr"]
/-! ### is_number -/
def nm3 : List (Str × NameKind) := [("thing", .local), ("isinstance", .globalImplicit), ("int", .globalImplicit), ("bool", .globalImplicit)]
def N3 : List Str := ["thing"]
theorem sc3 : FnScope N3 ["thing"] (defScope (topS 3)) := ⟨rfl, rfl, rfl, by decide +kernel, rfl, by decide +kernel, by decide +kernel⟩
def b3 : Fn Ct :=
  fRet (fAnd (fIsi "int" (fVar 0)) (fNot (fIsi "bool" (fVar 0))))
def φ3 : Phi := fDef 1 1 b3
theorem zb3 {G : Gz} {X : Cx} (c : Cz G bs 3 X N3 nm3 (fun _ => true)) : ZB X (defBody (topS 3)) b3 :=
  z_sone (z_ret (z_and (z_isi c "int" (z_var c (by decide +kernel))) (z_one (z_not (z_isi c "bool" (z_var c (by decide +kernel)))))))
/-! ### is_from -/
def nm4 : List (Str × NameKind) := [("thing", .local), ("is_number", .globalImplicit)]
def N4 : List Str := ["thing"]
theorem sc4 : FnScope N4 ["thing"] (defScope (topS 4)) := ⟨rfl, rfl, rfl, by decide +kernel, rfl, by decide +kernel, by decide +kernel⟩
def b4 : Fn Ct :=
  fRet (fAnd (fCall φ3 (fCons (fVar 0) (fNil))) (fBin gGe (fVar 0) (fC (.int 0))))
def φ4 : Phi := fDef 1 1 b4
theorem zb4 {G : Gz} {X : Cx} (F3 : Fz G 4 "is_number" 1 φ3) (c : Cz G bs 4 X N4 nm4 (fun _ => true)) : ZB X (defBody (topS 4)) b4 :=
  z_sone (z_ret (z_and (z_call c F3 (z_cons (z_var c (by decide +kernel)) (z_nil))) (z_one (z_ge c (z_var c (by decide +kernel)) (z_int)))))
/-! ### is_word -/
def nm5 : List (Str × NameKind) := [("thing", .local), ("isinstance", .globalImplicit), ("str", .globalImplicit), ("len", .globalImplicit), ("LONGEST", .globalImplicit), ("all", .globalImplicit)]
def N5 : List Str := ["thing", "sign"]
theorem sc5 : FnScope N5 ["thing"] (defScope (topS 5)) := ⟨rfl, rfl, rfl, by decide +kernel, rfl, by decide +kernel, by decide +kernel⟩
def b5 : Fn Ct :=
  fSeq (fIfS (fOrT (fNotT (fTest (fIsi "str" (fVar 0)))) (fNotT (fTest (fChain gLe gLe (fC (.int 1)) (fCall gLen (fCons (fVar 0) (fNil))) (fC (.int 8)))))) (fRet (fC (.bl false))) (fNop))
  (fRet (fCall gAll (fCons (fVal (fLc (fSrcS (fVar 0)) [1] (gNm 1) (fYes) (fBin gIn (fVar 1) (fC (.str (Str.ofString "abcdefghijklmnopqrstuvwxyz")))))) (fNil))))
def φ5 : Phi := fDef 1 2 b5
theorem zb5 {G : Gz} {X : Cx} (g_LONGEST : GV G "LONGEST" (.int 8)) (g_LETTERS : GV G "LETTERS" (.str (Str.ofString "abcdefghijklmnopqrstuvwxyz"))) (c : Cz G bs 5 X N5 nm5 (fun _ => true)) : ZB X (defBody (topS 5)) b5 :=
  z_cons2 (z_ifS (z_wT (w_or (z_notT (z_valT (z_isi c "str" (z_var c (by decide +kernel))))) (w_or1 (z_notT (z_chainT or_le or_le oz_ord oz_ord (z_int) (z_len c (z_cons (z_var c (by decide +kernel)) (z_nil))) (z_glob c g_LONGEST)))))) (z_sone (z_ret (z_bl))) (z_snil))
  (z_sone (z_ret (z_all c (z_cons (z_val (z_lc (q := false) c [("sign", 1)] (zi_str (z_var c (by decide +kernel))) (fun Xc1 c1 => ⟨zg_name c1 (by decide +kernel), zts_nil, z_in c1 (z_var c1 (by decide +kernel)) (z_glob c1 g_LETTERS)⟩))) (z_nil)))))
/-! ### are_words -/
def nm6 : List (Str × NameKind) := [("thing", .local), ("isinstance", .globalImplicit), ("tuple", .globalImplicit), ("all", .globalImplicit)]
def N6 : List Str := ["thing", "one"]
theorem sc6 : FnScope N6 ["thing"] (defScope (topS 6)) := ⟨rfl, rfl, rfl, by decide +kernel, rfl, by decide +kernel, by decide +kernel⟩
def b6 : Fn Ct :=
  fRet (fAnd (fIsi "tuple" (fVar 0)) (fCall gAll (fCons (fVal (fLc (fSrc (fVar 0)) [1] (gNm 1) (fYes) (fCall φ5 (fCons (fVar 1) (fNil))))) (fNil))))
def φ6 : Phi := fDef 1 2 b6
theorem zb6 {G : Gz} {X : Cx} (F5 : Fz G 6 "is_word" 1 φ5) (c : Cz G bs 6 X N6 nm6 (fun _ => true)) : ZB X (defBody (topS 6)) b6 :=
  z_sone (z_ret (z_and (z_isi c "tuple" (z_var c (by decide +kernel))) (z_one (z_all c (z_cons (z_val (z_lc (q := false) c [("one", 1)] (zi_seq (z_var c (by decide +kernel))) (fun Xc1 c1 => ⟨zg_name c1 (by decide +kernel), zts_nil, z_call c1 F5 (z_cons (z_var c1 (by decide +kernel)) (z_nil))⟩))) (z_nil))))))
/-! ### is_lots -/
def nm7 : List (Str × NameKind) := [("thing", .local), ("are_words", .globalImplicit), ("len", .globalImplicit), ("set", .globalImplicit)]
def N7 : List Str := ["thing"]
theorem sc7 : FnScope N7 ["thing"] (defScope (topS 7)) := ⟨rfl, rfl, rfl, by decide +kernel, rfl, by decide +kernel, by decide +kernel⟩
def b7 : Fn Ct :=
  fRet (fAnd (fCall φ6 (fCons (fVar 0) (fNil))) (fAnd (fBin gGt (fCall gLen (fCons (fVar 0) (fNil))) (fC (.int 1))) (fBin gEq (fLenSet (fVar 0)) (fCall gLen (fCons (fVar 0) (fNil))))))
def φ7 : Phi := fDef 1 1 b7
theorem zb7 {G : Gz} {X : Cx} (F6 : Fz G 7 "are_words" 1 φ6) (c : Cz G bs 7 X N7 nm7 (fun _ => true)) : ZB X (defBody (topS 7)) b7 :=
  z_sone (z_ret (z_and (z_call c F6 (z_cons (z_var c (by decide +kernel)) (z_nil))) (z_and (z_gt c (z_len c (z_cons (z_var c (by decide +kernel)) (z_nil))) (z_int)) (z_one (z_eq c (z_lenSet c (z_var c (by decide +kernel))) (z_len c (z_cons (z_var c (by decide +kernel)) (z_nil))))))))
/-! ### are_names -/
def nm9 : List (Str × NameKind) := [("lots", .cell), ("thing", .cell), ("are_words", .globalImplicit), ("all", .globalImplicit), ("range", .globalImplicit), ("len", .globalImplicit)]
def N9 : List Str := ["lots", "thing", "k", "name"]
theorem sc9 : FnScope N9 ["lots", "thing"] (defScope (topS 9)) := ⟨rfl, rfl, rfl, by decide +kernel, rfl, by decide +kernel, by decide +kernel⟩
def b9 : Fn Ct :=
  fSeq (fIfS (fOrT (fNotT (fTest (fCall φ6 (fCons (fVar 1) (fNil))))) (fNotT (fTest (fCall gAll (fCons (fVal (fLc (fSrc (fVar 1)) [3] (gNm 3) (fYes) (fBin gIn (fVar 3) (fVar 0)))) (fNil)))))) (fRet (fC (.bl false))) (fNop))
  (fRet (fCall gAll (fCons (fVal (fLc (fRng2 (fCons (fC (.int 1)) (fCons (fCall gLen (fCons (fVar 1) (fNil))) (fNil)))) [2] (gNm 2) (fYes) (fBin gLt (fBin gIx (fVar 1) (fBin gSub (fVar 2) (fC (.int 1)))) (fBin gIx (fVar 1) (fVar 2))))) (fNil))))
def φ9 : Phi := fDef 2 4 b9
theorem zb9 {G : Gz} {X : Cx} (F6 : Fz G 9 "are_words" 1 φ6) (c : Cz G bs 9 X N9 nm9 (fun _ => true)) : ZB X (defBody (topS 9)) b9 :=
  z_cons2 (z_ifS (z_wT (w_or (z_notT (z_valT (z_call c F6 (z_cons (z_var c (by decide +kernel)) (z_nil))))) (w_or1 (z_notT (z_valT (z_all c (z_cons (z_val (z_lc (q := false) c [("name", 3)] (zi_seq (z_var c (by decide +kernel))) (fun Xc1 c1 => ⟨zg_name c1 (by decide +kernel), zts_nil, z_in c1 (z_var c1 (by decide +kernel)) (z_var c1 (by decide +kernel))⟩))) (z_nil)))))))) (z_sone (z_ret (z_bl))) (z_snil))
  (z_sone (z_ret (z_all c (z_cons (z_val (z_lc (q := false) c [("k", 2)] (zi_rng2 c (z_cons (z_int) (z_cons (z_len c (z_cons (z_var c (by decide +kernel)) (z_nil))) (z_nil)))) (fun Xc1 c1 => ⟨zg_name c1 (by decide +kernel), zts_nil, z_lt c1 (z_ix c1 (z_var c1 (by decide +kernel)) (z_sub (z_var c1 (by decide +kernel)) (z_int))) (z_ix c1 (z_var c1 (by decide +kernel)) (z_var c1 (by decide +kernel)))⟩))) (z_nil)))))
/-! ### is_pile -/
def nm10 : List (Str × NameKind) := [("lots", .local), ("thing", .local), ("isinstance", .globalImplicit), ("tuple", .globalImplicit), ("len", .globalImplicit), ("are_words", .globalImplicit), ("is_from", .globalImplicit), ("are_names", .globalImplicit)]
def N10 : List Str := ["lots", "thing"]
theorem sc10 : FnScope N10 ["lots", "thing"] (defScope (topS 10)) := ⟨rfl, rfl, rfl, by decide +kernel, rfl, by decide +kernel, by decide +kernel⟩
def b10 : Fn Ct :=
  fSeq (fIfS (fOrT (fNotT (fTest (fIsi "tuple" (fVar 1)))) (fOrT (fTest (fBin gNe (fCall gLen (fCons (fVar 1) (fNil))) (fC (.int 4)))) (fOrT (fNotT (fTest (fCall φ6 (fCons (fSl (fVar 1) (fNoPart) (fPart (fC (.int 1)))) (fNil))))) (fTest (fBin gNotIn (fBin gIx (fVar 1) (fC (.int 0))) (fVar 0)))))) (fRet (fC (.bl false))) (fNop))
  (fRet (fAnd (fCall φ4 (fCons (fBin gIx (fVar 1) (fC (.int 1))) (fNil))) (fAnd (fCall φ4 (fCons (fBin gIx (fVar 1) (fC (.int 2))) (fNil))) (fAnd (fCall φ9 (fCons (fVar 0) (fCons (fBin gIx (fVar 1) (fC (.int 3))) (fNil)))) (fBin gNotIn (fBin gIx (fVar 1) (fC (.int 0))) (fBin gIx (fVar 1) (fC (.int 3))))))))
def φ10 : Phi := fDef 2 2 b10
theorem zb10 {G : Gz} {X : Cx} (F6 : Fz G 10 "are_words" 1 φ6) (F4 : Fz G 10 "is_from" 1 φ4) (F9 : Fz G 10 "are_names" 2 φ9) (c : Cz G bs 10 X N10 nm10 (fun _ => true)) : ZB X (defBody (topS 10)) b10 :=
  z_cons2 (z_ifS (z_wT (w_or (z_notT (z_valT (z_isi c "tuple" (z_var c (by decide +kernel))))) (w_or (z_neT c (z_len c (z_cons (z_var c (by decide +kernel)) (z_nil))) (z_int)) (w_or (z_notT (z_valT (z_call c F6 (z_cons (z_slice (z_var c (by decide +kernel)) (zo_none) (zo_some (z_int))) (z_nil))))) (w_or1 (z_notinT c (z_ix c (z_var c (by decide +kernel)) (z_int)) (z_var c (by decide +kernel)))))))) (z_sone (z_ret (z_bl))) (z_snil))
  (z_sone (z_ret (z_and (z_call c F4 (z_cons (z_ix c (z_var c (by decide +kernel)) (z_int)) (z_nil))) (z_and (z_call c F4 (z_cons (z_ix c (z_var c (by decide +kernel)) (z_int)) (z_nil))) (z_and (z_call c F9 (z_cons (z_var c (by decide +kernel)) (z_cons (z_ix c (z_var c (by decide +kernel)) (z_int)) (z_nil)))) (z_one (z_notin c (z_ix c (z_var c (by decide +kernel)) (z_int)) (z_ix c (z_var c (by decide +kernel)) (z_int)))))))))
/-! ### is_count -/
def nm11 : List (Str × NameKind) := [("thing", .cell), ("isinstance", .globalImplicit), ("tuple", .globalImplicit), ("len", .globalImplicit), ("is_lots", .globalImplicit), ("all", .globalImplicit)]
def N11 : List Str := ["thing", "names", "pile"]
theorem sc11 : FnScope N11 ["thing"] (defScope (topS 11)) := ⟨rfl, rfl, rfl, by decide +kernel, rfl, by decide +kernel, by decide +kernel⟩
def b11 : Fn Ct :=
  fSeq (fIfS (fOrT (fNotT (fTest (fIsi "tuple" (fVar 0)))) (fOrT (fTest (fBin gNe (fCall gLen (fCons (fVar 0) (fNil))) (fC (.int 3)))) (fNotT (fTest (fCall φ7 (fCons (fBin gIx (fVar 0) (fC (.int 0))) (fNil))))))) (fRet (fC (.bl false))) (fNop))
  (fSeq (fIfS (fOrT (fNotT (fTest (fIsi "tuple" (fBin gIx (fVar 0) (fC (.int 1)))))) (fNotT (fTest (fIsi "tuple" (fBin gIx (fVar 0) (fC (.int 2))))))) (fRet (fC (.bl false))) (fNop))
  (fSeq (fIfS (fNotT (fTest (fCall gAll (fCons (fVal (fLc (fSrc (fBin gIx (fVar 0) (fC (.int 1)))) [2] (gNm 2) (fYes) (fCall φ10 (fCons (fBin gIx (fVar 0) (fC (.int 0))) (fCons (fVar 2) (fNil)))))) (fNil))))) (fRet (fC (.bl false))) (fNop))
  (fRet (fCall gAll (fCons (fVal (fLc (fSrc (fBin gIx (fVar 0) (fC (.int 2)))) [1] (gNm 1) (fYes) (fAnd (fCall φ9 (fCons (fBin gIx (fVar 0) (fC (.int 0))) (fCons (fVar 1) (fNil)))) (fBin gGt (fCall gLen (fCons (fVar 1) (fNil))) (fC (.int 0)))))) (fNil))))))
def φ11 : Phi := fDef 1 3 b11
theorem zb11 {G : Gz} {X : Cx} (F7 : Fz G 11 "is_lots" 1 φ7) (F10 : Fz G 11 "is_pile" 2 φ10) (F9 : Fz G 11 "are_names" 2 φ9) (c : Cz G bs 11 X N11 nm11 (fun _ => true)) : ZB X (defBody (topS 11)) b11 :=
  z_cons2 (z_ifS (z_wT (w_or (z_notT (z_valT (z_isi c "tuple" (z_var c (by decide +kernel))))) (w_or (z_neT c (z_len c (z_cons (z_var c (by decide +kernel)) (z_nil))) (z_int)) (w_or1 (z_notT (z_valT (z_call c F7 (z_cons (z_ix c (z_var c (by decide +kernel)) (z_int)) (z_nil))))))))) (z_sone (z_ret (z_bl))) (z_snil))
  (z_cons2 (z_ifS (z_wT (w_or (z_notT (z_valT (z_isi c "tuple" (z_ix c (z_var c (by decide +kernel)) (z_int))))) (w_or1 (z_notT (z_valT (z_isi c "tuple" (z_ix c (z_var c (by decide +kernel)) (z_int)))))))) (z_sone (z_ret (z_bl))) (z_snil))
  (z_cons2 (z_ifS (z_notT (z_valT (z_all c (z_cons (z_val (z_lc (q := false) c [("pile", 2)] (zi_seq (z_ix c (z_var c (by decide +kernel)) (z_int))) (fun Xc1 c1 => ⟨zg_name c1 (by decide +kernel), zts_nil, z_call c1 F10 (z_cons (z_ix c1 (z_var c1 (by decide +kernel)) (z_int)) (z_cons (z_var c1 (by decide +kernel)) (z_nil)))⟩))) (z_nil))))) (z_sone (z_ret (z_bl))) (z_snil))
  (z_sone (z_ret (z_all c (z_cons (z_val (z_lc (q := false) c [("names", 1)] (zi_seq (z_ix c (z_var c (by decide +kernel)) (z_int))) (fun Xc1 c1 => ⟨zg_name c1 (by decide +kernel), zts_nil, z_and (z_call c1 F9 (z_cons (z_ix c1 (z_var c1 (by decide +kernel)) (z_int)) (z_cons (z_var c1 (by decide +kernel)) (z_nil)))) (z_one (z_gt c1 (z_len c1 (z_cons (z_var c1 (by decide +kernel)) (z_nil))) (z_int)))⟩))) (z_nil)))))))
/-! ### _law_tap -/
def nm13 : List (Str × NameKind) := [("script", .local), ("list", .globalImplicit)]
def N13 : List Str := ["script"]
theorem sc13 : FnScope N13 ["script"] (defScope (topS 13)) := ⟨rfl, rfl, rfl, by decide +kernel, rfl, by decide +kernel, by decide +kernel⟩
def b13 : Fn Ct :=
  fRet (fDict [(fC (.str (Str.ofString "cells")), fVal (fCallL gList (fCons (fSl (fVar 0) (fNoPart) (fPart (fC (.int 63)))) (fNil)))), (fC (.str (Str.ofString "spot")), fC (.int 0)), (fC (.str (Str.ofString "rest")), fC (.int 0)), (fC (.str (Str.ofString "calls")), fC (.int 0))])
def φ13 : Phi := fDefN 1 1 b13
theorem zb13 {G : Gz} {X : Cx} (c : Cz G bs 13 X N13 nm13 (fun _ => true)) : ZB X (defBody (topS 13)) b13 :=
  z_sone (z_ret (z_dict (zps_cons (z_str) (z_val (z_list c (z_cons (z_slice (z_var c (by decide +kernel)) (zo_none) (zo_some (z_int))) (z_nil)))) (zps_cons (z_str) (z_int) (zps_cons (z_str) (z_int) (zps_cons (z_str) (z_int) (zps_nil)))))))
/-! ### _law_take -/
def nm14 : List (Str × NameKind) := [("tap", .local), ("many", .local), ("calls", .local), ("figure", .local), ("spot", .local), ("cells", .local), ("cell", .local), ("once", .local), ("len", .globalImplicit)]
def N14 : List Str := ["tap", "many", "calls", "figure", "spot", "cells", "cell", "once"]
theorem sc14 : FnScope N14 ["tap", "many"] (defScope (topS 14)) := ⟨rfl, rfl, rfl, by decide +kernel, rfl, by decide +kernel, by decide +kernel⟩
def b14 : Fn Ct :=
  fSeq (fSet 2 (fBin gAdd (fBin gIx (fVar 0) (fC (.str (Str.ofString "calls")))) (fC (.int 1))))
  (fSeq (fPut (fVar 0) (fC (.str (Str.ofString "calls"))) (fVar 2))
  (fSeq (fIfS (fTest (fBin gGt (fBin gIx (fVar 0) (fC (.str (Str.ofString "rest")))) (fC (.int 0)))) (fSeq (fSet 3 (fBin gMod (fBin gIx (fVar 0) (fC (.str (Str.ofString "rest")))) (fVar 1)))
  (fSeq (fPut (fVar 0) (fC (.str (Str.ofString "rest"))) (fBin gDiv (fBin gIx (fVar 0) (fC (.str (Str.ofString "rest")))) (fVar 1)))
  (fRet (fVar 3)))) (fNop))
  (fSeq (fSet 4 (fBin gIx (fVar 0) (fC (.str (Str.ofString "spot")))))
  (fSeq (fPut (fVar 0) (fC (.str (Str.ofString "spot"))) (fBin gAdd (fVar 4) (fC (.int 1))))
  (fSeq (fSet 5 (fBin gIx (fVar 0) (fC (.str (Str.ofString "cells")))))
  (fSeq (fSet 6 (fIf (fTest (fBin gGt (fCall gLen (fCons (fVar 5) (fNil))) (fC (.int 0)))) (fBin gIx (fVar 5) (fBin gMod (fVar 4) (fCall gLen (fCons (fVar 5) (fNil))))) (fC (.int 5))))
  (fSeq (fIfS (fAndT (fTest (fBin gLt (fVar 4) (fCall gLen (fCons (fVar 5) (fNil))))) (fTest (fBin gGe (fVar 6) (fBin gPow (fC (.int 10)) (fC (.int 18)))))) (fSeq (fPut (fVar 0) (fC (.str (Str.ofString "rest"))) (fBin gDiv (fVar 6) (fVar 1)))
  (fRet (fBin gMod (fVar 6) (fVar 1)))) (fNop))
  (fSeq (fSet 7 (fBin gMod (fBin gPow (fBin gAdd (fBin gAdd (fBin gMod (fVar 6) (fC (.int 2147483629))) (fBin gMul (fC (.int 6007)) (fVar 2))) (fC (.int 11))) (fC (.int 5))) (fC (.int 2147483647))))
  (fRet (fBin gMod (fBin gDiv (fBin gMod (fBin gPow (fBin gAdd (fVar 7) (fBin gMul (fBin gMul (fC (.int 4099)) (fVar 2)) (fVar 2))) (fC (.int 5))) (fC (.int 2147483587))) (fC (.int 32))) (fVar 1)))))))))))
def φ14 : Phi := fDef 2 8 b14
theorem zb14 {G : Gz} {X : Cx} (c : Cz G bs 14 X N14 nm14 (fun _ => true)) : ZB X (defBody (topS 14)) b14 :=
  z_cons2 (z_set c (by decide +kernel) (z_add (z_ix c (z_var c (by decide +kernel)) (z_str)) (z_int)) (hs := c.sW.trans rfl))
  (z_cons2 (z_put c (z_var c (by decide +kernel)) (z_str) (z_var c (by decide +kernel)))
  (z_cons2 (z_ifS (z_gtT c (z_ix c (z_var c (by decide +kernel)) (z_str)) (z_int)) (z_cons2 (z_set c (by decide +kernel) (z_mod (z_ix c (z_var c (by decide +kernel)) (z_str)) (z_var c (by decide +kernel))) (hs := c.sW.trans rfl))
  (z_cons2 (z_put c (z_var c (by decide +kernel)) (z_str) (z_div (z_ix c (z_var c (by decide +kernel)) (z_str)) (z_var c (by decide +kernel))))
  (z_sone (z_ret (z_var c (by decide +kernel)))))) (z_snil))
  (z_cons2 (z_set c (by decide +kernel) (z_ix c (z_var c (by decide +kernel)) (z_str)) (hs := c.sW.trans rfl))
  (z_cons2 (z_put c (z_var c (by decide +kernel)) (z_str) (z_add (z_var c (by decide +kernel)) (z_int)))
  (z_cons2 (z_set c (by decide +kernel) (z_ix c (z_var c (by decide +kernel)) (z_str)) (hs := c.sW.trans rfl))
  (z_cons2 (z_set c (by decide +kernel) (z_if (z_gtT c (z_len c (z_cons (z_var c (by decide +kernel)) (z_nil))) (z_int)) (z_ix c (z_var c (by decide +kernel)) (z_mod (z_var c (by decide +kernel)) (z_len c (z_cons (z_var c (by decide +kernel)) (z_nil))))) (z_int)) (hs := c.sW.trans rfl))
  (z_cons2 (z_ifS (z_wT (w_and (z_ltT c (z_var c (by decide +kernel)) (z_len c (z_cons (z_var c (by decide +kernel)) (z_nil)))) (w_and1 (z_geT c (z_var c (by decide +kernel)) (z_pow (z_int) (z_int)))))) (z_cons2 (z_put c (z_var c (by decide +kernel)) (z_str) (z_div (z_var c (by decide +kernel)) (z_var c (by decide +kernel))))
  (z_sone (z_ret (z_mod (z_var c (by decide +kernel)) (z_var c (by decide +kernel)))))) (z_snil))
  (z_cons2 (z_set c (by decide +kernel) (z_mod (z_pow (z_add (z_add (z_mod (z_var c (by decide +kernel)) (z_int)) (z_mul (z_int) (z_var c (by decide +kernel)))) (z_int)) (z_int)) (z_int)) (hs := c.sW.trans rfl))
  (z_sone (z_ret (z_mod (z_div (z_mod (z_pow (z_add (z_var c (by decide +kernel)) (z_mul (z_mul (z_int) (z_var c (by decide +kernel))) (z_var c (by decide +kernel)))) (z_int)) (z_int)) (z_int)) (z_var c (by decide +kernel)))))))))))))
/-! ### _law_lots -/
def nm15 : List (Str × NameKind) := [("tap", .cell), ("many", .local), ("pool", .cell), ("tuple", .globalImplicit), ("range", .globalImplicit)]
def N15 : List Str := ["tap", "many", "pool", "k"]
theorem sc15 : FnScope N15 ["tap", "many"] (defScope (topS 15)) := ⟨rfl, rfl, rfl, by decide +kernel, rfl, by decide +kernel, by decide +kernel⟩
def b15 : Fn Ct :=
  fSeq (fSet 2 (fNew (fLst (fCons (fC (.str (Str.ofString "a"))) (fCons (fC (.str (Str.ofString "ab"))) (fCons (fC (.str (Str.ofString "abc"))) (fCons (fC (.str (Str.ofString "b"))) (fCons (fC (.str (Str.ofString "bell"))) (fCons (fC (.str (Str.ofString "told"))) (fCons (fC (.str (Str.ofString "x"))) (fCons (fC (.str (Str.ofString "zz"))) (fCons (fC (.str (Str.ofString "zzzzzzzz"))) (fCons (fC (.str (Str.ofString "as"))) (fNil))))))))))))))
  (fRet (fCall gTuple (fCons (fVal (fLc (fRng1 (fCons (fVar 1) (fNil))) [3] (gNm 3) (fYes) (fMt isL gPopAt (fVar 2) (fCons (fCall φ14 (fCons (fVar 0) (fCons (fCall gLen (fCons (fVar 2) (fNil))) (fNil)))) (fNil))))) (fNil))))
def φ15 : Phi := fDef 2 4 b15
theorem zb15 {G : Gz} {X : Cx} (F14 : Fz G 15 "_law_take" 2 φ14) (c : Cz G bs 15 X N15 nm15 (fun _ => true)) : ZB X (defBody (topS 15)) b15 :=
  z_cons2 (z_set c (by decide +kernel) (z_new (z_lst (z_cons (z_str) (z_cons (z_str) (z_cons (z_str) (z_cons (z_str) (z_cons (z_str) (z_cons (z_str) (z_cons (z_str) (z_cons (z_str) (z_cons (z_str) (z_cons (z_str) (z_nil))))))))))))) (hs := c.sW.trans rfl))
  (z_sone (z_ret (z_tuple c (z_cons (z_val (z_lc (q := false) c [("k", 3)] (zi_rng1 c (z_cons (z_var c (by decide +kernel)) (z_nil))) (fun Xc1 c1 => ⟨zg_name c1 (by decide +kernel), zts_nil, z_popAt (z_var c1 (by decide +kernel)) (z_cons (z_call c1 F14 (z_cons (z_var c1 (by decide +kernel)) (z_cons (z_len c1 (z_cons (z_var c1 (by decide +kernel)) (z_nil))) (z_nil)))) (z_nil))⟩))) (z_nil)))))
/-! ### _law_others -/
def nm16 : List (Str × NameKind) := [("tap", .cell), ("lots", .local), ("name", .cell), ("most", .local), ("tuple", .globalImplicit), ("sorted", .globalImplicit)]
def N16 : List Str := ["tap", "lots", "name", "most", "one"]
theorem sc16 : FnScope N16 ["tap", "lots", "name", "most"] (defScope (topS 16)) := ⟨rfl, rfl, rfl, by decide +kernel, rfl, by decide +kernel, by decide +kernel⟩
def b16 : Fn Ct :=
  fRet (fCall gTuple (fCons (fVal (fCallL gSorted (fCons (fSl (fVal (fLc (fSrc (fVar 1)) [4] (gNm 4) (fAndT (fTest (fBin gNe (fVar 4) (fVar 2))) (fTest (fBin gEq (fCall φ14 (fCons (fVar 0) (fCons (fC (.int 2)) (fNil)))) (fC (.int 0))))) (fVar 4))) (fNoPart) (fPart (fVar 3))) (fNil)))) (fNil)))
def φ16 : Phi := fDef 4 5 b16
theorem zb16 {G : Gz} {X : Cx} (F14 : Fz G 16 "_law_take" 2 φ14) (c : Cz G bs 16 X N16 nm16 (fun _ => true)) : ZB X (defBody (topS 16)) b16 :=
  z_sone (z_ret (z_tuple c (z_cons (z_val (z_sorted c (z_cons (z_slice (z_val (z_lc (q := false) c [("one", 4)] (zi_seq (z_var c (by decide +kernel))) (fun Xc1 c1 => ⟨zg_name c1 (by decide +kernel), zts_one (z_wT (w_and (z_neT c1 (z_var c1 (by decide +kernel)) (z_var c1 (by decide +kernel))) (w_and1 (z_eqT c1 (z_call c1 F14 (z_cons (z_var c1 (by decide +kernel)) (z_cons (z_int) (z_nil)))) (z_int))))), z_var c1 (by decide +kernel)⟩))) (zo_none) (zo_some (z_var c (by decide +kernel)))) (z_nil)))) (z_nil))))
/-! ### _law_names -/
def nm17 : List (Str × NameKind) := [("tap", .cell), ("lots", .local), ("found", .local), ("_law_take", .globalImplicit), ("len", .globalImplicit), ("tuple", .globalImplicit), ("sorted", .globalImplicit)]
def N17 : List Str := ["tap", "lots", "found", "one"]
theorem sc17 : FnScope N17 ["tap", "lots"] (defScope (topS 17)) := ⟨rfl, rfl, rfl, by decide +kernel, rfl, by decide +kernel, by decide +kernel⟩
def b17 : Fn Ct :=
  fSeq (fSet 2 (fVal (fLc (fSrc (fVar 1)) [3] (gNm 3) (fTest (fBin gEq (fCall φ14 (fCons (fVar 0) (fCons (fC (.int 2)) (fNil)))) (fC (.int 0)))) (fVar 3))))
  (fSeq (fIfS (fTest (fBin gEq (fVar 2) (fVal (fLst (fNil))))) (fSet 2 (fVal (fLst (fCons (fBin gIx (fVar 1) (fCall φ14 (fCons (fVar 0) (fCons (fCall gLen (fCons (fVar 1) (fNil))) (fNil))))) (fNil))))) (fNop))
  (fRet (fCall gTuple (fCons (fVal (fCallL gSorted (fCons (fVar 2) (fNil)))) (fNil)))))
def φ17 : Phi := fDef 2 4 b17
theorem zb17 {G : Gz} {X : Cx} (F14 : Fz G 17 "_law_take" 2 φ14) (c : Cz G bs 17 X N17 nm17 (fun _ => true)) : ZB X (defBody (topS 17)) b17 :=
  z_cons2 (z_setLc (q := false) c [("one", 3)] (zi_seq (z_var c (by decide +kernel))) (fun Xc1 c1 => ⟨zg_name c1 (by decide +kernel), zts_one (z_eqT c1 (z_call c1 F14 (z_cons (z_var c1 (by decide +kernel)) (z_cons (z_int) (z_nil)))) (z_int)), z_var c1 (by decide +kernel)⟩))
  (z_cons2 (z_ifS (z_eqT c (z_var c (by decide +kernel)) (z_val (z_lst (z_nil)))) (z_sone (z_set c (by decide +kernel) (z_val (z_lst (z_cons (z_ix c (z_var c (by decide +kernel)) (z_call c F14 (z_cons (z_var c (by decide +kernel)) (z_cons (z_len c (z_cons (z_var c (by decide +kernel)) (z_nil))) (z_nil))))) (z_nil)))) (hs := c.sW.trans rfl))) (z_snil))
  (z_sone (z_ret (z_tuple c (z_cons (z_val (z_sorted c (z_cons (z_var c (by decide +kernel)) (z_nil)))) (z_nil))))))
/-! ### _law_count -/
def nm18 : List (Str × NameKind) := [("tap", .local), ("lots", .local), ("piles", .local), ("few", .local), ("k", .local), ("name", .local), ("many", .local), ("slip", .local), ("others", .local), ("doubts", .local), ("_law_lots", .globalImplicit), ("_law_take", .globalImplicit), ("range", .globalImplicit), ("len", .globalImplicit), ("_law_others", .globalImplicit), ("_law_names", .globalImplicit), ("tuple", .globalImplicit)]
def N18 : List Str := ["tap", "lots", "piles", "few", "k", "name", "many", "slip", "others", "doubts"]
theorem sc18 : FnScope N18 ["tap"] (defScope (topS 18)) := ⟨rfl, rfl, rfl, by decide +kernel, rfl, by decide +kernel, by decide +kernel⟩
def b18 : Fn Ct :=
  fSeq (fSet 1 (fCall φ15 (fCons (fVar 0) (fCons (fBin gAdd (fC (.int 2)) (fCall φ14 (fCons (fVar 0) (fCons (fC (.int 5)) (fNil))))) (fNil)))))
  (fSeq (fPar2 2 3 (fCons (fNew (fLst (fNil))) (fCons (fC (.int 0)) (fNil))))
  (fSeq (fFor (fRng1 (fCons (fBin gIx (fVal (fLst (fCons (fCall φ14 (fCons (fVar 0) (fCons (fC (.int 4)) (fNil)))) (fCons (fCall φ14 (fCons (fVar 0) (fCons (fC (.int 11)) (fNil)))) (fNil))))) (fCall φ14 (fCons (fVar 0) (fCons (fC (.int 2)) (fNil))))) (fNil))) (gNm 4) (fSeq (fSet 5 (fBin gIx (fVar 1) (fCall φ14 (fCons (fVar 0) (fCons (fCall gLen (fCons (fVar 1) (fNil))) (fNil))))))
  (fSeq (fSet 6 (fBin gIx (fVal (fLst (fCons (fC (.int 0)) (fCons (fCall φ14 (fCons (fVar 0) (fCons (fC (.int 5)) (fNil)))) (fCons (fCall φ14 (fCons (fVar 0) (fCons (fC (.int 100)) (fNil)))) (fCons (fCall φ14 (fCons (fVar 0) (fCons (fBin gAdd (fBin gPow (fC (.int 10)) (fC (.int 6))) (fC (.int 1))) (fNil)))) (fNil))))))) (fCall φ14 (fCons (fVar 0) (fCons (fC (.int 4)) (fNil))))))
  (fSeq (fSet 7 (fBin gIx (fVal (fLst (fCons (fC (.int 0)) (fCons (fC (.int 1)) (fCons (fCall φ14 (fCons (fVar 0) (fCons (fC (.int 4)) (fNil)))) (fCons (fCall φ14 (fCons (fVar 0) (fCons (fBin gAdd (fBin gPow (fC (.int 10)) (fC (.int 4))) (fC (.int 1))) (fNil)))) (fNil))))))) (fCall φ14 (fCons (fVar 0) (fCons (fC (.int 4)) (fNil))))))
  (fSeq (fSet 8 (fTup (fNil)))
  (fSeq (fIfS (fAndT (fTest (fBin gLt (fVar 3) (fC (.int 3)))) (fTest (fBin gEq (fCall φ14 (fCons (fVar 0) (fCons (fC (.int 3)) (fNil)))) (fC (.int 0))))) (fSeq (fSet 8 (fCall φ16 (fCons (fVar 0) (fCons (fVar 1) (fCons (fVar 5) (fCons (fC (.int 2)) (fNil)))))))
  (fSet 3 (fBin gAdd (fVar 3) (fC (.int 1))))) (fNop))
  (fDrop (fMt isL gAppend (fVar 2) (fCons (fTup (fCons (fVar 5) (fCons (fVar 6) (fCons (fVar 7) (fCons (fVar 8) (fNil)))))) (fNil))))))))))
  (fSeq (fSet 9 (fNew (fLst (fNil))))
  (fSeq (fFor (fRng1 (fCons (fBin gIx (fVal (fLst (fCons (fCall φ14 (fCons (fVar 0) (fCons (fC (.int 4)) (fNil)))) (fCons (fCall φ14 (fCons (fVar 0) (fCons (fC (.int 13)) (fNil)))) (fNil))))) (fCall φ14 (fCons (fVar 0) (fCons (fC (.int 2)) (fNil))))) (fNil))) (gNm 4) (fDrop (fMt isL gAppend (fVar 9) (fCons (fCall φ17 (fCons (fVar 0) (fCons (fVar 1) (fNil)))) (fNil)))))
  (fRet (fTup (fCons (fVar 1) (fCons (fCall gTuple (fCons (fVar 2) (fNil))) (fCons (fCall gTuple (fCons (fVar 9) (fNil))) (fNil))))))))))
def φ18 : Phi := fDef 1 10 b18
theorem zb18 {G : Gz} {X : Cx} (F15 : Fz G 18 "_law_lots" 2 φ15) (F14 : Fz G 18 "_law_take" 2 φ14) (F16 : Fz G 18 "_law_others" 4 φ16) (F17 : Fz G 18 "_law_names" 2 φ17) (c : Cz G bs 18 X N18 nm18 (fun _ => true)) : ZB X (defBody (topS 18)) b18 :=
  z_cons2 (z_set c (by decide +kernel) (z_call c F15 (z_cons (z_var c (by decide +kernel)) (z_cons (z_add (z_int) (z_call c F14 (z_cons (z_var c (by decide +kernel)) (z_cons (z_int) (z_nil))))) (z_nil)))) (hs := c.sW.trans rfl))
  (z_cons2 (z_par2 c (z_cons (z_new (z_lst (z_nil))) (z_cons (z_int) (z_nil))) rfl rfl (by decide) rfl rfl rfl)
  (z_cons2 (z_for (q := false) c (zi_rng1 c (z_cons (z_ix c (z_val (z_lst (z_cons (z_call c F14 (z_cons (z_var c (by decide +kernel)) (z_cons (z_int) (z_nil)))) (z_cons (z_call c F14 (z_cons (z_var c (by decide +kernel)) (z_cons (z_int) (z_nil)))) (z_nil))))) (z_call c F14 (z_cons (z_var c (by decide +kernel)) (z_cons (z_int) (z_nil))))) (z_nil))) (zg_name c (by decide +kernel)) (z_cons2 (z_set c (by decide +kernel) (z_ix c (z_var c (by decide +kernel)) (z_call c F14 (z_cons (z_var c (by decide +kernel)) (z_cons (z_len c (z_cons (z_var c (by decide +kernel)) (z_nil))) (z_nil))))) (hs := c.sW.trans rfl))
  (z_cons2 (z_set c (by decide +kernel) (z_ix c (z_val (z_lst (z_cons (z_int) (z_cons (z_call c F14 (z_cons (z_var c (by decide +kernel)) (z_cons (z_int) (z_nil)))) (z_cons (z_call c F14 (z_cons (z_var c (by decide +kernel)) (z_cons (z_int) (z_nil)))) (z_cons (z_call c F14 (z_cons (z_var c (by decide +kernel)) (z_cons (z_add (z_pow (z_int) (z_int)) (z_int)) (z_nil)))) (z_nil))))))) (z_call c F14 (z_cons (z_var c (by decide +kernel)) (z_cons (z_int) (z_nil))))) (hs := c.sW.trans rfl))
  (z_cons2 (z_set c (by decide +kernel) (z_ix c (z_val (z_lst (z_cons (z_int) (z_cons (z_int) (z_cons (z_call c F14 (z_cons (z_var c (by decide +kernel)) (z_cons (z_int) (z_nil)))) (z_cons (z_call c F14 (z_cons (z_var c (by decide +kernel)) (z_cons (z_add (z_pow (z_int) (z_int)) (z_int)) (z_nil)))) (z_nil))))))) (z_call c F14 (z_cons (z_var c (by decide +kernel)) (z_cons (z_int) (z_nil))))) (hs := c.sW.trans rfl))
  (z_cons2 (z_set c (by decide +kernel) (z_tup (z_nil)) (hs := c.sW.trans rfl))
  (z_cons2 (z_ifS (z_wT (w_and (z_ltT c (z_var c (by decide +kernel)) (z_int)) (w_and1 (z_eqT c (z_call c F14 (z_cons (z_var c (by decide +kernel)) (z_cons (z_int) (z_nil)))) (z_int))))) (z_cons2 (z_set c (by decide +kernel) (z_call c F16 (z_cons (z_var c (by decide +kernel)) (z_cons (z_var c (by decide +kernel)) (z_cons (z_var c (by decide +kernel)) (z_cons (z_int) (z_nil)))))) (hs := c.sW.trans rfl))
  (z_sone (z_set c (by decide +kernel) (z_add (z_var c (by decide +kernel)) (z_int)) (hs := c.sW.trans rfl)))) (z_snil))
  (z_sone (z_expr (z_append (z_var c (by decide +kernel)) (z_cons (z_tup (z_cons (z_var c (by decide +kernel)) (z_cons (z_var c (by decide +kernel)) (z_cons (z_var c (by decide +kernel)) (z_cons (z_var c (by decide +kernel)) (z_nil)))))) (z_nil))) (hs := c.sW.trans rfl)))))))))
  (z_cons2 (z_set c (by decide +kernel) (z_new (z_lst (z_nil))) (hs := c.sW.trans rfl))
  (z_cons2 (z_for (q := false) c (zi_rng1 c (z_cons (z_ix c (z_val (z_lst (z_cons (z_call c F14 (z_cons (z_var c (by decide +kernel)) (z_cons (z_int) (z_nil)))) (z_cons (z_call c F14 (z_cons (z_var c (by decide +kernel)) (z_cons (z_int) (z_nil)))) (z_nil))))) (z_call c F14 (z_cons (z_var c (by decide +kernel)) (z_cons (z_int) (z_nil))))) (z_nil))) (zg_name c (by decide +kernel)) (z_sone (z_expr (z_append (z_var c (by decide +kernel)) (z_cons (z_call c F17 (z_cons (z_var c (by decide +kernel)) (z_cons (z_var c (by decide +kernel)) (z_nil)))) (z_nil))) (hs := c.sW.trans rfl))))
  (z_sone (z_ret (z_tup (z_cons (z_var c (by decide +kernel)) (z_cons (z_tuple c (z_cons (z_var c (by decide +kernel)) (z_nil))) (z_cons (z_tuple c (z_cons (z_var c (by decide +kernel)) (z_nil))) (z_nil)))))))))))
/-! ### _law_odd -/
def nm19 : List (Str × NameKind) := [("tap", .local), ("some", .local), ("_law_take", .globalImplicit)]
def N19 : List Str := ["tap", "some"]
theorem sc19 : FnScope N19 ["tap"] (defScope (topS 19)) := ⟨rfl, rfl, rfl, by decide +kernel, rfl, by decide +kernel, by decide +kernel⟩
def b19 : Fn Ct :=
  fSeq (fSet 1 (fVal (fLst (fCons (fC .non) (fCons (fC (.bl true)) (fCons (fC (.bl false)) (fCons (fC (.int 0)) (fCons (fC (.int 1)) (fCons (fUn gNeg (fC (.int 1))) (fCons (fBin gPow (fC (.int 10)) (fC (.int 50))) (fCons (fC (.str (Str.ofString ""))) (fCons (fC (.str (Str.ofString "a"))) (fCons (fC (.str (Str.ofString "A"))) (fCons (fC (.str (Str.ofString "abcdefghi"))) (fCons (fTup (fNil)) (fCons (fVal (fLst (fNil))) (fCons (fTup (fCons (fC (.str (Str.ofString "a"))) (fNil))) (fCons (fVal (fLst (fCons (fC (.str (Str.ofString "a"))) (fNil)))) (fCons (fC (.str (Str.ofString "q"))) (fNil))))))))))))))))))))
  (fRet (fBin gIx (fVar 1) (fCall φ14 (fCons (fVar 0) (fCons (fC (.int 16)) (fNil))))))
def φ19 : Phi := fDef 1 2 b19
theorem zb19 {G : Gz} {X : Cx} (F14 : Fz G 19 "_law_take" 2 φ14) (c : Cz G bs 19 X N19 nm19 (fun _ => true)) : ZB X (defBody (topS 19)) b19 :=
  z_cons2 (z_set c (by decide +kernel) (z_val (z_lst (z_cons (z_non) (z_cons (z_bl) (z_cons (z_bl) (z_cons (z_int) (z_cons (z_int) (z_cons (z_neg (z_int)) (z_cons (z_pow (z_int) (z_int)) (z_cons (z_str) (z_cons (z_str) (z_cons (z_str) (z_cons (z_str) (z_cons (z_tup (z_nil)) (z_cons (z_val (z_lst (z_nil))) (z_cons (z_tup (z_cons (z_str) (z_nil))) (z_cons (z_val (z_lst (z_cons (z_str) (z_nil)))) (z_cons (z_str) (z_nil))))))))))))))))))) (hs := c.sW.trans rfl))
  (z_sone (z_ret (z_ix c (z_var c (by decide +kernel)) (z_call c F14 (z_cons (z_var c (by decide +kernel)) (z_cons (z_int) (z_nil)))))))
/-! ### _law_bend -/
def nm20 : List (Str × NameKind) := [("tap", .local), ("thing", .local), ("deep", .local), ("at", .local), ("way", .local), ("isinstance", .globalImplicit), ("tuple", .globalImplicit), ("_law_take", .globalImplicit), ("len", .globalImplicit), ("_law_bend", .globalImplicit), ("_law_odd", .globalImplicit), ("list", .globalImplicit), ("int", .globalImplicit), ("str", .globalImplicit)]
def N20 : List Str := ["tap", "thing", "deep", "at", "way"]
theorem sc20 : FnScope N20 ["tap", "thing", "deep"] (defScope (topS 20)) := ⟨rfl, rfl, rfl, by decide +kernel, rfl, by decide +kernel, by decide +kernel⟩
def b20 (ψ : Phi) : Fn Ct :=
  fSeq (fIfS (fAndT (fTest (fIsi "tuple" (fVar 1))) (fAndT (fTest (fBin gNe (fVar 1) (fTup (fNil)))) (fAndT (fTest (fBin gGt (fVar 2) (fC (.int 0)))) (fTest (fBin gGt (fCall φ14 (fCons (fVar 0) (fCons (fC (.int 3)) (fNil)))) (fC (.int 0))))))) (fSeq (fSet 3 (fCall φ14 (fCons (fVar 0) (fCons (fCall gLen (fCons (fVar 1) (fNil))) (fNil)))))
  (fRet (fBin gAddB (fBin gAddB (fSl (fVar 1) (fNoPart) (fPart (fVar 3))) (fTup (fCons (fCall ψ (fCons (fVar 0) (fCons (fBin gIx (fVar 1) (fVar 3)) (fCons (fBin gSubB (fVar 2) (fC (.int 1))) (fNil))))) (fNil)))) (fSl (fVar 1) (fPart (fBin gAddB (fVar 3) (fC (.int 1)))) (fNoPart))))) (fNop))
  (fSeq (fSet 4 (fCall φ14 (fCons (fVar 0) (fCons (fC (.int 7)) (fNil)))))
  (fSeq (fIfS (fTest (fIsi "tuple" (fVar 1))) (fSeq (fSet 3 (fCall φ14 (fCons (fVar 0) (fCons (fBin gAddB (fCall gLen (fCons (fVar 1) (fNil))) (fC (.int 1))) (fNil)))))
  (fSeq (fIfS (fTest (fBin gEq (fVar 4) (fC (.int 3)))) (fRet (fBin gAddB (fBin gAddB (fSl (fVar 1) (fNoPart) (fPart (fVar 3))) (fTup (fCons (fCall φ19 (fCons (fVar 0) (fNil))) (fNil)))) (fSl (fVar 1) (fPart (fVar 3)) (fNoPart)))) (fNop))
  (fSeq (fIfS (fTest (fBin gLt (fVar 4) (fC (.int 5)))) (fRet (fBin gIx (fVal (fLst (fCons (fVal (fCallL gList (fCons (fVar 1) (fNil)))) (fCons (fBin gAddB (fSl (fVar 1) (fNoPart) (fPart (fVar 3))) (fSl (fVar 1) (fPart (fBin gAddB (fVar 3) (fC (.int 1)))) (fNoPart))) (fCons (fBin gAddB (fBin gAddB (fSl (fVar 1) (fNoPart) (fPart (fVar 3))) (fSl (fVar 1) (fPart (fVar 3)) (fPart (fBin gAddB (fVar 3) (fC (.int 1)))))) (fSl (fVar 1) (fPart (fVar 3)) (fNoPart))) (fCons (fTup (fNil)) (fCons (fRevT (fVar 1)) (fNil)))))))) (fVar 4))) (fNop))
  (fRet (fCall φ19 (fCons (fVar 0) (fNil))))))) (fNop))
  (fSeq (fIfS (fAndT (fTest (fIsi "int" (fVar 1))) (fTest (fBin gLt (fVar 4) (fC (.int 4))))) (fRet (fBin gIx (fVal (fLst (fCons (fBin gAddB (fVar 1) (fC (.int 1))) (fCons (fBin gSubB (fVar 1) (fC (.int 1))) (fCons (fBin gEq (fVar 1) (fC (.int 1))) (fCons (fCall gStrB (fCons (fVar 1) (fNil))) (fNil))))))) (fVar 4))) (fNop))
  (fSeq (fIfS (fAndT (fTest (fIsi "str" (fVar 1))) (fTest (fBin gLt (fVar 4) (fC (.int 3))))) (fRet (fBin gIx (fVal (fLst (fCons (fBin gAddB (fVar 1) (fC (.str (Str.ofString "a")))) (fCons (fSl (fVar 1) (fPart (fC (.int 1))) (fNoPart)) (fCons (fUn gUpper (fVar 1)) (fNil)))))) (fVar 4))) (fNop))
  (fRet (fCall φ19 (fCons (fVar 0) (fNil))))))))
def φ20 : Phi := recZ 3 5 b20 5
theorem zb20 {G : Gz} {X : Cx} {κ : Nat} {ψ : Phi} (F14 : Fz G κ "_law_take" 2 φ14) (F19 : Fz G κ "_law_odd" 1 φ19) (Fr : Fz G κ "_law_bend" 3 ψ) (c : Cz G bs κ X N20 nm20 (fun _ => true)) : ZB X (defBody (topS 20)) (b20 ψ) :=
  z_cons2 (z_ifS (z_wT (w_and (z_valT (z_isi c "tuple" (z_var c (by decide +kernel)))) (w_and (z_neT c (z_var c (by decide +kernel)) (z_tup (z_nil))) (w_and (z_gtT c (z_var c (by decide +kernel)) (z_int)) (w_and1 (z_gtT c (z_call c F14 (z_cons (z_var c (by decide +kernel)) (z_cons (z_int) (z_nil)))) (z_int))))))) (z_cons2 (z_set c (by decide +kernel) (z_call c F14 (z_cons (z_var c (by decide +kernel)) (z_cons (z_len c (z_cons (z_var c (by decide +kernel)) (z_nil))) (z_nil)))) (hs := c.sW.trans rfl))
  (z_sone (z_ret (z_addB (z_addB (z_slice (z_var c (by decide +kernel)) (zo_none) (zo_some (z_var c (by decide +kernel)))) (z_tup (z_cons (z_call c Fr (z_cons (z_var c (by decide +kernel)) (z_cons (z_ix c (z_var c (by decide +kernel)) (z_var c (by decide +kernel))) (z_cons (z_subB (z_var c (by decide +kernel)) (z_int)) (z_nil))))) (z_nil)))) (z_slice (z_var c (by decide +kernel)) (zo_some (z_addB (z_var c (by decide +kernel)) (z_int))) (zo_none)))))) (z_snil))
  (z_cons2 (z_set c (by decide +kernel) (z_call c F14 (z_cons (z_var c (by decide +kernel)) (z_cons (z_int) (z_nil)))) (hs := c.sW.trans rfl))
  (z_cons2 (z_ifS (z_valT (z_isi c "tuple" (z_var c (by decide +kernel)))) (z_cons2 (z_set c (by decide +kernel) (z_call c F14 (z_cons (z_var c (by decide +kernel)) (z_cons (z_addB (z_len c (z_cons (z_var c (by decide +kernel)) (z_nil))) (z_int)) (z_nil)))) (hs := c.sW.trans rfl))
  (z_cons2 (z_ifS (z_eqT c (z_var c (by decide +kernel)) (z_int)) (z_sone (z_ret (z_addB (z_addB (z_slice (z_var c (by decide +kernel)) (zo_none) (zo_some (z_var c (by decide +kernel)))) (z_tup (z_cons (z_call c F19 (z_cons (z_var c (by decide +kernel)) (z_nil))) (z_nil)))) (z_slice (z_var c (by decide +kernel)) (zo_some (z_var c (by decide +kernel))) (zo_none))))) (z_snil))
  (z_cons2 (z_ifS (z_ltT c (z_var c (by decide +kernel)) (z_int)) (z_sone (z_ret (z_ix c (z_val (z_lst (z_cons (z_val (z_list c (z_cons (z_var c (by decide +kernel)) (z_nil)))) (z_cons (z_addB (z_slice (z_var c (by decide +kernel)) (zo_none) (zo_some (z_var c (by decide +kernel)))) (z_slice (z_var c (by decide +kernel)) (zo_some (z_addB (z_var c (by decide +kernel)) (z_int))) (zo_none))) (z_cons (z_addB (z_addB (z_slice (z_var c (by decide +kernel)) (zo_none) (zo_some (z_var c (by decide +kernel)))) (z_slice (z_var c (by decide +kernel)) (zo_some (z_var c (by decide +kernel))) (zo_some (z_addB (z_var c (by decide +kernel)) (z_int))))) (z_slice (z_var c (by decide +kernel)) (zo_some (z_var c (by decide +kernel))) (zo_none))) (z_cons (z_tup (z_nil)) (z_cons (z_revT (z_var c (by decide +kernel))) (z_nil)))))))) (z_var c (by decide +kernel))))) (z_snil))
  (z_sone (z_ret (z_call c F19 (z_cons (z_var c (by decide +kernel)) (z_nil)))))))) (z_snil))
  (z_cons2 (z_ifS (z_wT (w_and (z_valT (z_isi c "int" (z_var c (by decide +kernel)))) (w_and1 (z_ltT c (z_var c (by decide +kernel)) (z_int))))) (z_sone (z_ret (z_ix c (z_val (z_lst (z_cons (z_addB (z_var c (by decide +kernel)) (z_int)) (z_cons (z_subB (z_var c (by decide +kernel)) (z_int)) (z_cons (z_eq c (z_var c (by decide +kernel)) (z_int)) (z_cons (z_strB c (z_cons (z_var c (by decide +kernel)) (z_nil))) (z_nil))))))) (z_var c (by decide +kernel))))) (z_snil))
  (z_cons2 (z_ifS (z_wT (w_and (z_valT (z_isi c "str" (z_var c (by decide +kernel)))) (w_and1 (z_ltT c (z_var c (by decide +kernel)) (z_int))))) (z_sone (z_ret (z_ix c (z_val (z_lst (z_cons (z_addB (z_var c (by decide +kernel)) (z_str)) (z_cons (z_slice (z_var c (by decide +kernel)) (zo_some (z_int)) (zo_none)) (z_cons (z_upper (z_var c (by decide +kernel))) (z_nil)))))) (z_var c (by decide +kernel))))) (z_snil))
  (z_sone (z_ret (z_call c F19 (z_cons (z_var c (by decide +kernel)) (z_nil)))))))))
/-! ### _law_is_number -/
def nm21 : List (Str × NameKind) := [("thing", .local), ("isinstance", .globalImplicit), ("int", .globalImplicit), ("bool", .globalImplicit)]
def N21 : List Str := ["thing"]
theorem sc21 : FnScope N21 ["thing"] (defScope (topS 21)) := ⟨rfl, rfl, rfl, by decide +kernel, rfl, by decide +kernel, by decide +kernel⟩
def b21 : Fn Ct :=
  fRet (fAnd (fIsi "int" (fVar 0)) (fNot (fIsi "bool" (fVar 0))))
def φ21 : Phi := fDef 1 1 b21
theorem zb21 {G : Gz} {X : Cx} (c : Cz G bs 25 X N21 nm21 (fun _ => true)) : ZB X (defBody (topS 21)) b21 :=
  z_sone (z_ret (z_and (z_isi c "int" (z_var c (by decide +kernel))) (z_one (z_not (z_isi c "bool" (z_var c (by decide +kernel)))))))
/-! ### _law_is_word -/
def nm22 : List (Str × NameKind) := [("thing", .local), ("isinstance", .globalImplicit), ("str", .globalImplicit), ("len", .globalImplicit)]
def N22 : List Str := ["thing", "sign"]
theorem sc22 : FnScope N22 ["thing"] (defScope (topS 22)) := ⟨rfl, rfl, rfl, by decide +kernel, rfl, by decide +kernel, by decide +kernel⟩
def b22 : Fn Ct :=
  fSeq (fIfS (fOrT (fNotT (fTest (fIsi "str" (fVar 0)))) (fOrT (fTest (fBin gLt (fCall gLen (fCons (fVar 0) (fNil))) (fC (.int 1)))) (fTest (fBin gGt (fCall gLen (fCons (fVar 0) (fNil))) (fC (.int 8)))))) (fRet (fC (.bl false))) (fNop))
  (fRet (fBin gEq (fVal (fLc (fSrcS (fVar 0)) [1] (gNm 1) (fTest (fBin gNotIn (fVar 1) (fC (.str (Str.ofString "abcdefghijklmnopqrstuvwxyz"))))) (fVar 1))) (fVal (fLst (fNil)))))
def φ22 : Phi := fDef 1 2 b22
theorem zb22 {G : Gz} {X : Cx} (c : Cz G bs 26 X N22 nm22 (fun _ => true)) : ZB X (defBody (topS 22)) b22 :=
  z_cons2 (z_ifS (z_wT (w_or (z_notT (z_valT (z_isi c "str" (z_var c (by decide +kernel))))) (w_or (z_ltT c (z_len c (z_cons (z_var c (by decide +kernel)) (z_nil))) (z_int)) (w_or1 (z_gtT c (z_len c (z_cons (z_var c (by decide +kernel)) (z_nil))) (z_int)))))) (z_sone (z_ret (z_bl))) (z_snil))
  (z_sone (z_ret (z_eq c (z_val (z_lc (q := false) c [("sign", 1)] (zi_str (z_var c (by decide +kernel))) (fun Xc1 c1 => ⟨zg_name c1 (by decide +kernel), zts_one (z_notinT c1 (z_var c1 (by decide +kernel)) (z_str)), z_var c1 (by decide +kernel)⟩))) (z_val (z_lst (z_nil))))))
/-! ### _law_are_rising -/
def nm23 : List (Str × NameKind) := [("lots", .cell), ("thing", .cell), ("isinstance", .globalImplicit), ("tuple", .globalImplicit), ("range", .globalImplicit), ("len", .globalImplicit)]
def N23 : List Str := ["lots", "thing", "one", "k"]
theorem sc23 : FnScope N23 ["lots", "thing"] (defScope (topS 23)) := ⟨rfl, rfl, rfl, by decide +kernel, rfl, by decide +kernel, by decide +kernel⟩
def b23 : Fn Ct :=
  fSeq (fIfS (fNotT (fTest (fIsi "tuple" (fVar 1)))) (fRet (fC (.bl false))) (fNop))
  (fSeq (fIfS (fTest (fBin gNe (fVal (fLc (fSrc (fVar 1)) [2] (gNm 2) (fOrT (fNotT (fTest (fCall φ22 (fCons (fVar 2) (fNil))))) (fTest (fBin gNotIn (fVar 2) (fVar 0)))) (fVar 2))) (fVal (fLst (fNil))))) (fRet (fC (.bl false))) (fNop))
  (fRet (fBin gEq (fVal (fLc (fRng2 (fCons (fC (.int 1)) (fCons (fCall gLen (fCons (fVar 1) (fNil))) (fNil)))) [3] (gNm 3) (fTest (fBin gGe (fBin gIx (fVar 1) (fBin gSub (fVar 3) (fC (.int 1)))) (fBin gIx (fVar 1) (fVar 3)))) (fVar 3))) (fVal (fLst (fNil))))))
def φ23 : Phi := fDef 2 4 b23
theorem zb23 {G : Gz} {X : Cx} (F22 : Fz G 27 "_law_is_word" 1 φ22) (c : Cz G bs 27 X N23 nm23 (fun _ => true)) : ZB X (defBody (topS 23)) b23 :=
  z_cons2 (z_ifS (z_notT (z_valT (z_isi c "tuple" (z_var c (by decide +kernel))))) (z_sone (z_ret (z_bl))) (z_snil))
  (z_cons2 (z_ifS (z_neT c (z_val (z_lc (q := false) c [("one", 2)] (zi_seq (z_var c (by decide +kernel))) (fun Xc1 c1 => ⟨zg_name c1 (by decide +kernel), zts_one (z_wT (w_or (z_notT (z_valT (z_call c1 F22 (z_cons (z_var c1 (by decide +kernel)) (z_nil))))) (w_or1 (z_notinT c1 (z_var c1 (by decide +kernel)) (z_var c1 (by decide +kernel)))))), z_var c1 (by decide +kernel)⟩))) (z_val (z_lst (z_nil)))) (z_sone (z_ret (z_bl))) (z_snil))
  (z_sone (z_ret (z_eq c (z_val (z_lc (q := false) c [("k", 3)] (zi_rng2 c (z_cons (z_int) (z_cons (z_len c (z_cons (z_var c (by decide +kernel)) (z_nil))) (z_nil)))) (fun Xc1 c1 => ⟨zg_name c1 (by decide +kernel), zts_one (z_geT c1 (z_ix c1 (z_var c1 (by decide +kernel)) (z_sub (z_var c1 (by decide +kernel)) (z_int))) (z_ix c1 (z_var c1 (by decide +kernel)) (z_var c1 (by decide +kernel)))), z_var c1 (by decide +kernel)⟩))) (z_val (z_lst (z_nil)))))))
/-! ### _law_is_pile -/
def nm24 : List (Str × NameKind) := [("lots", .local), ("row", .local), ("isinstance", .globalImplicit), ("tuple", .globalImplicit), ("len", .globalImplicit), ("_law_is_word", .globalImplicit), ("_law_are_rising", .globalImplicit)]
def N24 : List Str := ["lots", "row", "one"]
theorem sc24 : FnScope N24 ["lots", "row"] (defScope (topS 24)) := ⟨rfl, rfl, rfl, by decide +kernel, rfl, by decide +kernel, by decide +kernel⟩
def b24 : Fn Ct :=
  fSeq (fIfS (fOrT (fNotT (fTest (fIsi "tuple" (fVar 1)))) (fTest (fBin gNe (fCall gLen (fCons (fVar 1) (fNil))) (fC (.int 4))))) (fRet (fC (.bl false))) (fNop))
  (fSeq (fIfS (fOrT (fNotT (fTest (fCall φ22 (fCons (fBin gIx (fVar 1) (fC (.int 0))) (fNil))))) (fTest (fBin gNotIn (fBin gIx (fVar 1) (fC (.int 0))) (fVar 0)))) (fRet (fC (.bl false))) (fNop))
  (fSeq (fIfS (fTest (fBin gNe (fVal (fLc (fSrc (fSl (fVar 1) (fPart (fC (.int 1))) (fPart (fC (.int 3))))) [2] (gNm 2) (fOrT (fNotT (fTest (fCall φ21 (fCons (fVar 2) (fNil))))) (fTest (fBin gLt (fVar 2) (fC (.int 0))))) (fVar 2))) (fVal (fLst (fNil))))) (fRet (fC (.bl false))) (fNop))
  (fRet (fAnd (fCall φ23 (fCons (fVar 0) (fCons (fBin gIx (fVar 1) (fC (.int 3))) (fNil)))) (fBin gNotIn (fBin gIx (fVar 1) (fC (.int 0))) (fBin gIx (fVar 1) (fC (.int 3))))))))
def φ24 : Phi := fDef 2 3 b24
theorem zb24 {G : Gz} {X : Cx} (F22 : Fz G 28 "_law_is_word" 1 φ22) (F21 : Fz G 28 "_law_is_number" 1 φ21) (F23 : Fz G 28 "_law_are_rising" 2 φ23) (c : Cz G bs 28 X N24 nm24 (fun _ => true)) : ZB X (defBody (topS 24)) b24 :=
  z_cons2 (z_ifS (z_wT (w_or (z_notT (z_valT (z_isi c "tuple" (z_var c (by decide +kernel))))) (w_or1 (z_neT c (z_len c (z_cons (z_var c (by decide +kernel)) (z_nil))) (z_int))))) (z_sone (z_ret (z_bl))) (z_snil))
  (z_cons2 (z_ifS (z_wT (w_or (z_notT (z_valT (z_call c F22 (z_cons (z_ix c (z_var c (by decide +kernel)) (z_int)) (z_nil))))) (w_or1 (z_notinT c (z_ix c (z_var c (by decide +kernel)) (z_int)) (z_var c (by decide +kernel)))))) (z_sone (z_ret (z_bl))) (z_snil))
  (z_cons2 (z_ifS (z_neT c (z_val (z_lc (q := false) c [("one", 2)] (zi_seq (z_slice (z_var c (by decide +kernel)) (zo_some (z_int)) (zo_some (z_int)))) (fun Xc1 c1 => ⟨zg_name c1 (by decide +kernel), zts_one (z_wT (w_or (z_notT (z_valT (z_call c1 F21 (z_cons (z_var c1 (by decide +kernel)) (z_nil))))) (w_or1 (z_ltT c1 (z_var c1 (by decide +kernel)) (z_int))))), z_var c1 (by decide +kernel)⟩))) (z_val (z_lst (z_nil)))) (z_sone (z_ret (z_bl))) (z_snil))
  (z_sone (z_ret (z_and (z_call c F23 (z_cons (z_var c (by decide +kernel)) (z_cons (z_ix c (z_var c (by decide +kernel)) (z_int)) (z_nil)))) (z_one (z_notin c (z_ix c (z_var c (by decide +kernel)) (z_int)) (z_ix c (z_var c (by decide +kernel)) (z_int)))))))))
/-! ### _law_is_count -/
def nm25 : List (Str × NameKind) := [("thing", .local), ("lots", .cell), ("isinstance", .globalImplicit), ("tuple", .globalImplicit), ("len", .globalImplicit)]
def N25 : List Str := ["thing", "lots", "one", "row", "names"]
theorem sc25 : FnScope N25 ["thing"] (defScope (topS 25)) := ⟨rfl, rfl, rfl, by decide +kernel, rfl, by decide +kernel, by decide +kernel⟩
def b25 : Fn Ct :=
  fSeq (fIfS (fOrT (fNotT (fTest (fIsi "tuple" (fVar 0)))) (fTest (fBin gNe (fCall gLen (fCons (fVar 0) (fNil))) (fC (.int 3))))) (fRet (fC (.bl false))) (fNop))
  (fSeq (fIfS (fTest (fBin gNe (fVal (fLc (fSrc (fVar 0)) [2] (gNm 2) (fNotT (fTest (fIsi "tuple" (fVar 2)))) (fVar 2))) (fVal (fLst (fNil))))) (fRet (fC (.bl false))) (fNop))
  (fSeq (fSet 1 (fBin gIx (fVar 0) (fC (.int 0))))
  (fSeq (fIfS (fOrT (fTest (fBin gLt (fCall gLen (fCons (fVar 1) (fNil))) (fC (.int 2)))) (fTest (fBin gNe (fVal (fLc (fSrc (fVar 1)) [2] (gNm 2) (fNotT (fTest (fCall φ22 (fCons (fVar 2) (fNil))))) (fVar 2))) (fVal (fLst (fNil)))))) (fRet (fC (.bl false))) (fNop))
  (fSeq (fIfS (fTest (fBin gGt (fCall gLen (fCons (fVal (fLc (fSrc (fVar 1)) [2] (gNm 2) (fTest (fBin gGt (fMt isT gCountT (fVar 1) (fCons (fVar 2) (fNil))) (fC (.int 1)))) (fVar 2))) (fNil))) (fC (.int 0)))) (fRet (fC (.bl false))) (fNop))
  (fSeq (fIfS (fTest (fBin gNe (fVal (fLc (fSrc (fBin gIx (fVar 0) (fC (.int 1)))) [3] (gNm 3) (fNotT (fTest (fCall φ24 (fCons (fVar 1) (fCons (fVar 3) (fNil)))))) (fVar 3))) (fVal (fLst (fNil))))) (fRet (fC (.bl false))) (fNop))
  (fRet (fBin gEq (fVal (fLc (fSrc (fBin gIx (fVar 0) (fC (.int 2)))) [4] (gNm 4) (fOrT (fTest (fBin gEq (fVar 4) (fTup (fNil)))) (fNotT (fTest (fCall φ23 (fCons (fVar 1) (fCons (fVar 4) (fNil))))))) (fVar 4))) (fVal (fLst (fNil))))))))))
def φ25 : Phi := fDef 1 5 b25
theorem zb25 {G : Gz} {X : Cx} (F22 : Fz G 29 "_law_is_word" 1 φ22) (F24 : Fz G 29 "_law_is_pile" 2 φ24) (F23 : Fz G 29 "_law_are_rising" 2 φ23) (c : Cz G bs 29 X N25 nm25 (fun _ => true)) : ZB X (defBody (topS 25)) b25 :=
  z_cons2 (z_ifS (z_wT (w_or (z_notT (z_valT (z_isi c "tuple" (z_var c (by decide +kernel))))) (w_or1 (z_neT c (z_len c (z_cons (z_var c (by decide +kernel)) (z_nil))) (z_int))))) (z_sone (z_ret (z_bl))) (z_snil))
  (z_cons2 (z_ifS (z_neT c (z_val (z_lc (q := false) c [("one", 2)] (zi_seq (z_var c (by decide +kernel))) (fun Xc1 c1 => ⟨zg_name c1 (by decide +kernel), zts_one (z_notT (z_valT (z_isi c1 "tuple" (z_var c1 (by decide +kernel))))), z_var c1 (by decide +kernel)⟩))) (z_val (z_lst (z_nil)))) (z_sone (z_ret (z_bl))) (z_snil))
  (z_cons2 (z_set c (by decide +kernel) (z_ix c (z_var c (by decide +kernel)) (z_int)) (hs := c.sW.trans rfl))
  (z_cons2 (z_ifS (z_wT (w_or (z_ltT c (z_len c (z_cons (z_var c (by decide +kernel)) (z_nil))) (z_int)) (w_or1 (z_neT c (z_val (z_lc (q := false) c [("one", 2)] (zi_seq (z_var c (by decide +kernel))) (fun Xc1 c1 => ⟨zg_name c1 (by decide +kernel), zts_one (z_notT (z_valT (z_call c1 F22 (z_cons (z_var c1 (by decide +kernel)) (z_nil))))), z_var c1 (by decide +kernel)⟩))) (z_val (z_lst (z_nil))))))) (z_sone (z_ret (z_bl))) (z_snil))
  (z_cons2 (z_ifS (z_gtT c (z_len c (z_cons (z_val (z_lc (q := false) c [("one", 2)] (zi_seq (z_var c (by decide +kernel))) (fun Xc1 c1 => ⟨zg_name c1 (by decide +kernel), zts_one (z_gtT c1 (z_countT (z_var c1 (by decide +kernel)) (z_cons (z_var c1 (by decide +kernel)) (z_nil))) (z_int)), z_var c1 (by decide +kernel)⟩))) (z_nil))) (z_int)) (z_sone (z_ret (z_bl))) (z_snil))
  (z_cons2 (z_ifS (z_neT c (z_val (z_lc (q := false) c [("row", 3)] (zi_seq (z_ix c (z_var c (by decide +kernel)) (z_int))) (fun Xc1 c1 => ⟨zg_name c1 (by decide +kernel), zts_one (z_notT (z_valT (z_call c1 F24 (z_cons (z_var c1 (by decide +kernel)) (z_cons (z_var c1 (by decide +kernel)) (z_nil)))))), z_var c1 (by decide +kernel)⟩))) (z_val (z_lst (z_nil)))) (z_sone (z_ret (z_bl))) (z_snil))
  (z_sone (z_ret (z_eq c (z_val (z_lc (q := false) c [("names", 4)] (zi_seq (z_ix c (z_var c (by decide +kernel)) (z_int))) (fun Xc1 c1 => ⟨zg_name c1 (by decide +kernel), zts_one (z_wT (w_or (z_eqT c1 (z_var c1 (by decide +kernel)) (z_tup (z_nil))) (w_or1 (z_notT (z_valT (z_call c1 F23 (z_cons (z_var c1 (by decide +kernel)) (z_cons (z_var c1 (by decide +kernel)) (z_nil))))))))), z_var c1 (by decide +kernel)⟩))) (z_val (z_lst (z_nil)))))))))))
/-! ### _law_things -/
def nm26 : List (Str × NameKind) := [("tap", .local), ("count", .local), ("lots", .local), ("piles", .local), ("doubts", .local), ("one", .local), ("other", .local), ("low", .local), ("found", .local), ("others", .local), ("names", .local), ("number", .local), ("k", .local), ("bend", .local), ("tuple", .globalImplicit), ("sorted", .globalImplicit), ("range", .globalImplicit), ("_law_bend", .globalImplicit), ("_law_odd", .globalImplicit), ("list", .globalImplicit)]
def N26 : List Str := ["tap", "count", "lots", "piles", "doubts", "one", "other", "low", "found", "others", "names", "number", "k", "bend"]
theorem sc26 : FnScope N26 ["tap", "count"] (defScope (topS 26)) := ⟨rfl, rfl, rfl, by decide +kernel, rfl, by decide +kernel, by decide +kernel⟩
def b26 : Fn Ct :=
  fSeq (fAsg (fVar 1) (gTp 3 (gsCons (gNm 2) (gsCons (gNm 3) (gsCons (gNm 4) (gsNil))))))
  (fSeq (fPar3 5 6 7 (fCons (fBin gIx (fVar 2) (fC (.int 0))) (fCons (fBin gIx (fVar 2) (fC (.int 1))) (fCons (fCall gTuple (fCons (fVal (fCallL gSorted (fCons (fSl (fVar 2) (fNoPart) (fPart (fC (.int 2)))) (fNil)))) (fNil))) (fNil)))))
  (fSeq (fSet 8 (fNew (fLst (fCons (fVar 1) (fCons (fTup (fCons (fVar 2) (fCons (fBin gTimesV (fVar 3) (fC (.int 10))) (fCons (fBin gTimesV (fVar 4) (fC (.int 9))) (fNil))))) (fCons (fTup (fCons (fVar 2) (fCons (fTup (fNil)) (fCons (fTup (fNil)) (fNil))))) (fCons (fTup (fCons (fSl (fVar 2) (fNoPart) (fPart (fC (.int 1)))) (fCons (fTup (fNil)) (fCons (fTup (fNil)) (fNil))))) (fCons (fTup (fCons (fBin gAdd (fVar 2) (fSl (fVar 2) (fNoPart) (fPart (fC (.int 1))))) (fCons (fTup (fNil)) (fCons (fTup (fNil)) (fNil))))) (fNil)))))))))
  (fSeq (fFor (fSrc (fTup (fCons (fTup (fCons (fVar 5) (fNil))) (fCons (fTup (fCons (fVar 6) (fNil))) (fCons (fVar 7) (fCons (fRevT (fVar 7)) (fCons (fTup (fCons (fVar 6) (fCons (fVar 6) (fNil)))) (fCons (fTup (fCons (fC (.str (Str.ofString "q"))) (fNil))) (fCons (fVal (fLst (fCons (fVar 6) (fNil)))) (fCons (fVar 6) (fNil))))))))))) (gNm 9) (fDrop (fMt isL gAppend (fVar 8) (fCons (fTup (fCons (fVar 2) (fCons (fTup (fCons (fTup (fCons (fVar 5) (fCons (fC (.int 3)) (fCons (fC (.int 1)) (fCons (fVar 9) (fNil)))))) (fNil))) (fCons (fTup (fNil)) (fNil))))) (fNil)))))
  (fSeq (fFor (fSrc (fTup (fCons (fVar 7) (fCons (fRevT (fVar 7)) (fCons (fTup (fNil)) (fCons (fTup (fCons (fVar 5) (fNil))) (fCons (fTup (fCons (fVar 5) (fCons (fVar 5) (fNil)))) (fCons (fVal (fLst (fCons (fVar 5) (fNil)))) (fCons (fTup (fCons (fC (.str (Str.ofString "q"))) (fNil))) (fNil)))))))))) (gNm 10) (fDrop (fMt isL gAppend (fVar 8) (fCons (fTup (fCons (fVar 2) (fCons (fTup (fNil)) (fCons (fTup (fCons (fVar 7) (fCons (fVar 10) (fNil)))) (fNil))))) (fNil)))))
  (fSeq (fFor (fSrc (fTup (fCons (fC (.int 0)) (fCons (fUn gNeg (fC (.int 1))) (fCons (fC (.bl true)) (fCons (fC .non) (fCons (fBin gPow (fC (.int 10)) (fC (.int 50))) (fNil)))))))) (gNm 11) (fSet 8 (fNew (fCatL (fVar 8) (fVal (fLst (fCons (fTup (fCons (fVar 2) (fCons (fTup (fCons (fTup (fCons (fVar 5) (fCons (fVar 11) (fCons (fC (.int 0)) (fCons (fTup (fNil)) (fNil)))))) (fNil))) (fCons (fTup (fNil)) (fNil))))) (fCons (fTup (fCons (fVar 2) (fCons (fTup (fCons (fTup (fCons (fVar 5) (fCons (fC (.int 0)) (fCons (fVar 11) (fCons (fTup (fNil)) (fNil)))))) (fNil))) (fCons (fTup (fNil)) (fNil))))) (fNil)))))))))
  (fSeq (fFor (fRng1 (fCons (fC (.int 8)) (fNil))) (gNm 12) (fSeq (fSet 13 (fCall φ20 (fCons (fVar 0) (fCons (fVar 1) (fCons (fC (.int 4)) (fNil))))))
  (fSet 8 (fNew (fCatL (fVar 8) (fVal (fLst (fCons (fVar 13) (fCons (fCall φ20 (fCons (fVar 0) (fCons (fVar 13) (fCons (fC (.int 4)) (fNil))))) (fNil))))))))))
  (fRet (fVal (fCatL (fVar 8) (fVal (fLst (fCons (fCall φ19 (fCons (fVar 0) (fNil))) (fCons (fVal (fCallL gList (fCons (fVar 1) (fNil)))) (fCons (fTup (fCons (fVar 2) (fCons (fVal (fCallL gList (fCons (fVar 3) (fNil)))) (fCons (fVar 4) (fNil))))) (fNil)))))))))))))))
def φ26 : Phi := fDef 2 14 b26
theorem zb26 {G : Gz} {X : Cx} (F20 : Fz G 30 "_law_bend" 3 φ20) (F19 : Fz G 30 "_law_odd" 1 φ19) (c : Cz G bs 30 X N26 nm26 (fun _ => true)) : ZB X (defBody (topS 26)) b26 :=
  z_cons2 (z_asg (z_var c (by decide +kernel)) (zg_tup c (zgs_cons (zg_name c (by decide +kernel)) (zgs_cons (zg_name c (by decide +kernel)) (zgs_cons (zg_name c (by decide +kernel)) (zgs_nil))))))
  (z_cons2 (z_par3 c (z_cons (z_ix c (z_var c (by decide +kernel)) (z_int)) (z_cons (z_ix c (z_var c (by decide +kernel)) (z_int)) (z_cons (z_tuple c (z_cons (z_val (z_sorted c (z_cons (z_slice (z_var c (by decide +kernel)) (zo_none) (zo_some (z_int))) (z_nil)))) (z_nil))) (z_nil)))) rfl rfl rfl (by decide) (by decide) (by decide) rfl rfl rfl rfl)
  (z_cons2 (z_set c (by decide +kernel) (z_new (z_lst (z_cons (z_var c (by decide +kernel)) (z_cons (z_tup (z_cons (z_var c (by decide +kernel)) (z_cons (z_timesV (z_var c (by decide +kernel)) (z_int)) (z_cons (z_timesV (z_var c (by decide +kernel)) (z_int)) (z_nil))))) (z_cons (z_tup (z_cons (z_var c (by decide +kernel)) (z_cons (z_tup (z_nil)) (z_cons (z_tup (z_nil)) (z_nil))))) (z_cons (z_tup (z_cons (z_slice (z_var c (by decide +kernel)) (zo_none) (zo_some (z_int))) (z_cons (z_tup (z_nil)) (z_cons (z_tup (z_nil)) (z_nil))))) (z_cons (z_tup (z_cons (z_add (z_var c (by decide +kernel)) (z_slice (z_var c (by decide +kernel)) (zo_none) (zo_some (z_int)))) (z_cons (z_tup (z_nil)) (z_cons (z_tup (z_nil)) (z_nil))))) (z_nil)))))))) (hs := c.sW.trans rfl))
  (z_cons2 (z_for (q := false) c (zi_seq (z_tup (z_cons (z_tup (z_cons (z_var c (by decide +kernel)) (z_nil))) (z_cons (z_tup (z_cons (z_var c (by decide +kernel)) (z_nil))) (z_cons (z_var c (by decide +kernel)) (z_cons (z_revT (z_var c (by decide +kernel))) (z_cons (z_tup (z_cons (z_var c (by decide +kernel)) (z_cons (z_var c (by decide +kernel)) (z_nil)))) (z_cons (z_tup (z_cons (z_str) (z_nil))) (z_cons (z_val (z_lst (z_cons (z_var c (by decide +kernel)) (z_nil)))) (z_cons (z_var c (by decide +kernel)) (z_nil))))))))))) (zg_name c (by decide +kernel)) (z_sone (z_expr (z_append (z_var c (by decide +kernel)) (z_cons (z_tup (z_cons (z_var c (by decide +kernel)) (z_cons (z_tup (z_cons (z_tup (z_cons (z_var c (by decide +kernel)) (z_cons (z_int) (z_cons (z_int) (z_cons (z_var c (by decide +kernel)) (z_nil)))))) (z_nil))) (z_cons (z_tup (z_nil)) (z_nil))))) (z_nil))) (hs := c.sW.trans rfl))))
  (z_cons2 (z_for (q := false) c (zi_seq (z_tup (z_cons (z_var c (by decide +kernel)) (z_cons (z_revT (z_var c (by decide +kernel))) (z_cons (z_tup (z_nil)) (z_cons (z_tup (z_cons (z_var c (by decide +kernel)) (z_nil))) (z_cons (z_tup (z_cons (z_var c (by decide +kernel)) (z_cons (z_var c (by decide +kernel)) (z_nil)))) (z_cons (z_val (z_lst (z_cons (z_var c (by decide +kernel)) (z_nil)))) (z_cons (z_tup (z_cons (z_str) (z_nil))) (z_nil)))))))))) (zg_name c (by decide +kernel)) (z_sone (z_expr (z_append (z_var c (by decide +kernel)) (z_cons (z_tup (z_cons (z_var c (by decide +kernel)) (z_cons (z_tup (z_nil)) (z_cons (z_tup (z_cons (z_var c (by decide +kernel)) (z_cons (z_var c (by decide +kernel)) (z_nil)))) (z_nil))))) (z_nil))) (hs := c.sW.trans rfl))))
  (z_cons2 (z_for (q := false) c (zi_seq (z_tup (z_cons (z_int) (z_cons (z_neg (z_int)) (z_cons (z_bl) (z_cons (z_non) (z_cons (z_pow (z_int) (z_int)) (z_nil)))))))) (zg_name c (by decide +kernel)) (z_sone (z_set c (by decide +kernel) (z_new (z_catL (z_var c (by decide +kernel)) (z_val (z_lst (z_cons (z_tup (z_cons (z_var c (by decide +kernel)) (z_cons (z_tup (z_cons (z_tup (z_cons (z_var c (by decide +kernel)) (z_cons (z_var c (by decide +kernel)) (z_cons (z_int) (z_cons (z_tup (z_nil)) (z_nil)))))) (z_nil))) (z_cons (z_tup (z_nil)) (z_nil))))) (z_cons (z_tup (z_cons (z_var c (by decide +kernel)) (z_cons (z_tup (z_cons (z_tup (z_cons (z_var c (by decide +kernel)) (z_cons (z_int) (z_cons (z_var c (by decide +kernel)) (z_cons (z_tup (z_nil)) (z_nil)))))) (z_nil))) (z_cons (z_tup (z_nil)) (z_nil))))) (z_nil))))))) (hs := c.sW.trans rfl))))
  (z_cons2 (z_for (q := false) c (zi_rng1 c (z_cons (z_int) (z_nil))) (zg_name c (by decide +kernel)) (z_cons2 (z_set c (by decide +kernel) (z_call c F20 (z_cons (z_var c (by decide +kernel)) (z_cons (z_var c (by decide +kernel)) (z_cons (z_int) (z_nil))))) (hs := c.sW.trans rfl))
  (z_sone (z_set c (by decide +kernel) (z_new (z_catL (z_var c (by decide +kernel)) (z_val (z_lst (z_cons (z_var c (by decide +kernel)) (z_cons (z_call c F20 (z_cons (z_var c (by decide +kernel)) (z_cons (z_var c (by decide +kernel)) (z_cons (z_int) (z_nil))))) (z_nil))))))) (hs := c.sW.trans rfl)))))
  (z_sone (z_ret (z_val (z_catL (z_var c (by decide +kernel)) (z_val (z_lst (z_cons (z_call c F19 (z_cons (z_var c (by decide +kernel)) (z_nil))) (z_cons (z_val (z_list c (z_cons (z_var c (by decide +kernel)) (z_nil)))) (z_cons (z_tup (z_cons (z_var c (by decide +kernel)) (z_cons (z_val (z_list c (z_cons (z_var c (by decide +kernel)) (z_nil)))) (z_cons (z_var c (by decide +kernel)) (z_nil))))) (z_nil))))))))))))))))
/-! ### _law_great -/
def nm27 : List (Str × NameKind) := [("tap", .local), ("letters", .local), ("lots", .local), ("others", .local), ("found", .local), ("rows", .local), ("some", .local), ("tuple", .globalImplicit), ("sorted", .globalImplicit), ("_law_take", .globalImplicit)]
def N27 : List Str := ["tap", "letters", "lots", "others", "found", "rows", "some", "sign"]
theorem sc27 : FnScope N27 ["tap"] (defScope (topS 27)) := ⟨rfl, rfl, rfl, by decide +kernel, rfl, by decide +kernel, by decide +kernel⟩
def b27 : Fn Ct :=
  fSeq (fSet 1 (fC (.str (Str.ofString "abcdefghijklmnopqrstuvwxyz"))))
  (fSeq (fSet 2 (fCall gTuple (fCons (fVal (fCatL (fVal (fLc (fSrcS (fVar 1)) [7] (gNm 7) (fYes) (fBin gAdd (fC (.str (Str.ofString "n"))) (fVar 7)))) (fVal (fLc (fSrcS (fSl (fVar 1) (fNoPart) (fPart (fC (.int 14))))) [7] (gNm 7) (fYes) (fBin gAdd (fC (.str (Str.ofString "m"))) (fVar 7)))))) (fNil))))
  (fSeq (fSet 3 (fCall gTuple (fCons (fVal (fCallL gSorted (fCons (fSl (fVar 2) (fPart (fC (.int 1))) (fPart (fBin gAdd (fC (.int 5)) (fCall φ14 (fCons (fVar 0) (fCons (fC (.int 6)) (fNil))))))) (fNil)))) (fNil))))
  (fSeq (fSet 4 (fVal (fLst (fCons (fTup (fCons (fVar 2) (fCons (fTup (fNil)) (fCons (fTup (fNil)) (fNil))))) (fCons (fTup (fCons (fRevT (fVar 2)) (fCons (fTup (fCons (fTup (fCons (fC (.str (Str.ofString "na"))) (fCons (fC (.int 5)) (fCons (fC (.int 1)) (fCons (fVar 3) (fNil)))))) (fNil))) (fCons (fTup (fCons (fVar 3) (fNil))) (fNil))))) (fCons (fTup (fCons (fBin gAdd (fVar 2) (fSl (fVar 2) (fNoPart) (fPart (fC (.int 1))))) (fCons (fTup (fNil)) (fCons (fTup (fNil)) (fNil))))) (fNil)))))))
  (fSeq (fSet 5 (fVal (fLst (fCons (fVar 3) (fCons (fBin gAdd (fSl (fVar 3) (fNoPart) (fPart (fUn gNeg (fC (.int 2))))) (fTailT (fVar 3))) (fCons (fBin gAdd (fVar 3) (fSl (fVar 3) (fPart (fUn gNeg (fC (.int 1)))) (fNoPart))) (fCons (fBin gAdd (fSl (fVar 3) (fNoPart) (fPart (fUn gNeg (fC (.int 1))))) (fTup (fCons (fC (.str (Str.ofString "q"))) (fNil)))) (fCons (fBin gAdd (fSl (fVar 3) (fNoPart) (fPart (fUn gNeg (fC (.int 1))))) (fTup (fCons (fC (.str (Str.ofString "na"))) (fNil)))) (fNil)))))))))
  (fSeq (fFor (fSrc (fVar 5)) (gNm 6) (fSet 4 (fVal (fCatL (fVar 4) (fVal (fLst (fCons (fTup (fCons (fVar 2) (fCons (fTup (fCons (fTup (fCons (fC (.str (Str.ofString "na"))) (fCons (fC (.int 5)) (fCons (fC (.int 1)) (fCons (fVar 6) (fNil)))))) (fNil))) (fCons (fTup (fNil)) (fNil))))) (fCons (fTup (fCons (fVar 2) (fCons (fTup (fNil)) (fCons (fTup (fCons (fVar 6) (fNil))) (fNil))))) (fNil)))))))))
  (fRet (fVar 4)))))))
def φ27 : Phi := fDef 1 8 b27
theorem zb27 {G : Gz} {X : Cx} (F14 : Fz G 31 "_law_take" 2 φ14) (c : Cz G bs 31 X N27 nm27 (fun _ => true)) : ZB X (defBody (topS 27)) b27 :=
  z_cons2 (z_set c (by decide +kernel) (z_str) (hs := c.sW.trans rfl))
  (z_cons2 (z_set c (by decide +kernel) (z_tuple c (z_cons (z_val (z_catL (z_val (z_lc (q := false) c [("sign", 7)] (zi_str (z_var c (by decide +kernel))) (fun Xc1 c1 => ⟨zg_name c1 (by decide +kernel), zts_nil, z_add (z_str) (z_var c1 (by decide +kernel))⟩))) (z_val (z_lc (q := false) c [("sign", 7)] (zi_str (z_slice (z_var c (by decide +kernel)) (zo_none) (zo_some (z_int)))) (fun Xc1 c1 => ⟨zg_name c1 (by decide +kernel), zts_nil, z_add (z_str) (z_var c1 (by decide +kernel))⟩))))) (z_nil))) (hs := c.sW.trans rfl))
  (z_cons2 (z_set c (by decide +kernel) (z_tuple c (z_cons (z_val (z_sorted c (z_cons (z_slice (z_var c (by decide +kernel)) (zo_some (z_int)) (zo_some (z_add (z_int) (z_call c F14 (z_cons (z_var c (by decide +kernel)) (z_cons (z_int) (z_nil))))))) (z_nil)))) (z_nil))) (hs := c.sW.trans rfl))
  (z_cons2 (z_set c (by decide +kernel) (z_val (z_lst (z_cons (z_tup (z_cons (z_var c (by decide +kernel)) (z_cons (z_tup (z_nil)) (z_cons (z_tup (z_nil)) (z_nil))))) (z_cons (z_tup (z_cons (z_revT (z_var c (by decide +kernel))) (z_cons (z_tup (z_cons (z_tup (z_cons (z_str) (z_cons (z_int) (z_cons (z_int) (z_cons (z_var c (by decide +kernel)) (z_nil)))))) (z_nil))) (z_cons (z_tup (z_cons (z_var c (by decide +kernel)) (z_nil))) (z_nil))))) (z_cons (z_tup (z_cons (z_add (z_var c (by decide +kernel)) (z_slice (z_var c (by decide +kernel)) (zo_none) (zo_some (z_int)))) (z_cons (z_tup (z_nil)) (z_cons (z_tup (z_nil)) (z_nil))))) (z_nil)))))) (hs := c.sW.trans rfl))
  (z_cons2 (z_set c (by decide +kernel) (z_val (z_lst (z_cons (z_var c (by decide +kernel)) (z_cons (z_add (z_slice (z_var c (by decide +kernel)) (zo_none) (zo_some (z_neg (z_int)))) (z_tailT (z_var c (by decide +kernel)))) (z_cons (z_add (z_var c (by decide +kernel)) (z_slice (z_var c (by decide +kernel)) (zo_some (z_neg (z_int))) (zo_none))) (z_cons (z_add (z_slice (z_var c (by decide +kernel)) (zo_none) (zo_some (z_neg (z_int)))) (z_tup (z_cons (z_str) (z_nil)))) (z_cons (z_add (z_slice (z_var c (by decide +kernel)) (zo_none) (zo_some (z_neg (z_int)))) (z_tup (z_cons (z_str) (z_nil)))) (z_nil)))))))) (hs := c.sW.trans rfl))
  (z_cons2 (z_for (q := false) c (zi_seq (z_var c (by decide +kernel))) (zg_name c (by decide +kernel)) (z_sone (z_set c (by decide +kernel) (z_val (z_catL (z_var c (by decide +kernel)) (z_val (z_lst (z_cons (z_tup (z_cons (z_var c (by decide +kernel)) (z_cons (z_tup (z_cons (z_tup (z_cons (z_str) (z_cons (z_int) (z_cons (z_int) (z_cons (z_var c (by decide +kernel)) (z_nil)))))) (z_nil))) (z_cons (z_tup (z_nil)) (z_nil))))) (z_cons (z_tup (z_cons (z_var c (by decide +kernel)) (z_cons (z_tup (z_nil)) (z_cons (z_tup (z_cons (z_var c (by decide +kernel)) (z_nil))) (z_nil))))) (z_nil))))))) (hs := c.sW.trans rfl))))
  (z_sone (z_ret (z_var c (by decide +kernel)))))))))
/-! ### law -/
def nm28 : List (Str × NameKind) := [("script", .local), ("tap", .local), ("thing", .local), ("k", .local), ("kept", .local), ("_law_tap", .globalImplicit), ("_law_great", .globalImplicit), ("repr", .globalImplicit), ("is_count", .globalImplicit), ("_law_is_count", .globalImplicit), ("range", .globalImplicit), ("_law_things", .globalImplicit), ("_law_count", .globalImplicit)]
def N28 : List Str := ["script", "tap", "thing", "k", "kept"]
theorem sc28 : FnScope N28 ["script"] (defScope (topS 28)) := ⟨rfl, rfl, rfl, by decide +kernel, rfl, by decide +kernel, by decide +kernel⟩
def b28 : Fn Ct :=
  fSeq (fSet 1 (fCall φ13 (fCons (fVar 0) (fNil))))
  (fSeq (fFor (fSrc (fCall φ27 (fCons (fVar 1) (fNil)))) (gNm 2) (fIfS (fTest (fBin gNe (fCall gRepr (fCons (fCall φ11 (fCons (fVar 2) (fNil))) (fNil))) (fCall gRepr (fCons (fCall φ25 (fCons (fVar 2) (fNil))) (fNil))))) (fRet (fC (.bl false))) (fNop)))
  (fSeq (fFor (fRng1 (fCons (fC (.int 2)) (fNil))) (gNm 3) (fFor (fSrc (fCall φ26 (fCons (fVar 1) (fCons (fCall φ18 (fCons (fVar 1) (fNil))) (fNil))))) (gNm 2) (fSeq (fSet 4 (fCall gRepr (fCons (fVar 2) (fNil))))
  (fIfS (fOrT (fTest (fBin gNe (fCall gRepr (fCons (fCall φ11 (fCons (fVar 2) (fNil))) (fNil))) (fCall gRepr (fCons (fCall φ25 (fCons (fVar 2) (fNil))) (fNil))))) (fTest (fBin gNe (fCall gRepr (fCons (fVar 2) (fNil))) (fVar 4)))) (fRet (fC (.bl false))) (fNop)))))
  (fRet (fC (.bl true)))))
def φ28 : Phi := fDef 1 5 b28
theorem zb28 {G : Gz} {X : Cx} (F13 : Fz G 32 "_law_tap" 1 φ13) (F27 : Fz G 32 "_law_great" 1 φ27) (F11 : Fz G 32 "is_count" 1 φ11) (F25 : Fz G 32 "_law_is_count" 1 φ25) (F26 : Fz G 32 "_law_things" 2 φ26) (F18 : Fz G 32 "_law_count" 1 φ18) (c : Cz G bs 32 X N28 nm28 (fun _ => true)) : ZB X (defBody (topS 28)) b28 :=
  z_cons2 (z_set c (by decide +kernel) (z_call c F13 (z_cons (z_var c (by decide +kernel)) (z_nil))) (hs := c.sW.trans rfl))
  (z_cons2 (z_for (q := false) c (zi_seq (z_call c F27 (z_cons (z_var c (by decide +kernel)) (z_nil)))) (zg_name c (by decide +kernel)) (z_sone (z_ifS (z_neT c (z_repr c (z_cons (z_call c F11 (z_cons (z_var c (by decide +kernel)) (z_nil))) (z_nil))) (z_repr c (z_cons (z_call c F25 (z_cons (z_var c (by decide +kernel)) (z_nil))) (z_nil)))) (z_sone (z_ret (z_bl))) (z_snil))))
  (z_cons2 (z_for (q := false) c (zi_rng1 c (z_cons (z_int) (z_nil))) (zg_name c (by decide +kernel)) (z_sone (z_for (q := false) c (zi_seq (z_call c F26 (z_cons (z_var c (by decide +kernel)) (z_cons (z_call c F18 (z_cons (z_var c (by decide +kernel)) (z_nil))) (z_nil))))) (zg_name c (by decide +kernel)) (z_cons2 (z_set c (by decide +kernel) (z_repr c (z_cons (z_var c (by decide +kernel)) (z_nil))) (hs := c.sW.trans rfl))
  (z_sone (z_ifS (z_wT (w_or (z_neT c (z_repr c (z_cons (z_call c F11 (z_cons (z_var c (by decide +kernel)) (z_nil))) (z_nil))) (z_repr c (z_cons (z_call c F25 (z_cons (z_var c (by decide +kernel)) (z_nil))) (z_nil)))) (w_or1 (z_neT c (z_repr c (z_cons (z_var c (by decide +kernel)) (z_nil))) (z_var c (by decide +kernel)))))) (z_sone (z_ret (z_bl))) (z_snil)))))))
  (z_sone (z_ret (z_bl)))))
/-! ### what the top has written -/
theorem all_mk {l : PySem.W.OpenLaw} {w : World} {K : PySem.W.Frag} {h : Heap} {mg : Str → Option Value} {fa : Addr} (X : K.In h) (G : h.Ns mainGlobals mg) (hfa : mg "law" = some (.ref fa))
    {f3 : Addr} {od3 an3 : Option Addr} {sl3 : Array (Option Value)} {oc3 kV3 dc3 pm3 cd3 ct3 : Value}
    (a3 : PySem.W.nsIn K mainGlobals "is_number" = some (some (.ref f3))) (l3 : K.lookup f3 = some ⟨oc3, od3, .func (PySem.W.fnOf "is_number" "is_number" (defArgs (topS 3)) (defBody (topS 3)) (defScope (topS 3)) .none kV3 dc3 pm3 an3 cd3 ct3), sl3⟩) (c3 : PySem.W.codeIn K cd3 "is_number" = true) (k3 : PySem.W.keepIn K (.ref f3) = true)
    {f4 : Addr} {od4 an4 : Option Addr} {sl4 : Array (Option Value)} {oc4 kV4 dc4 pm4 cd4 ct4 : Value}
    (a4 : PySem.W.nsIn K mainGlobals "is_from" = some (some (.ref f4))) (l4 : K.lookup f4 = some ⟨oc4, od4, .func (PySem.W.fnOf "is_from" "is_from" (defArgs (topS 4)) (defBody (topS 4)) (defScope (topS 4)) .none kV4 dc4 pm4 an4 cd4 ct4), sl4⟩) (c4 : PySem.W.codeIn K cd4 "is_from" = true) (k4 : PySem.W.keepIn K (.ref f4) = true)
    {f5 : Addr} {od5 an5 : Option Addr} {sl5 : Array (Option Value)} {oc5 kV5 dc5 pm5 cd5 ct5 : Value}
    (a5 : PySem.W.nsIn K mainGlobals "is_word" = some (some (.ref f5))) (l5 : K.lookup f5 = some ⟨oc5, od5, .func (PySem.W.fnOf "is_word" "is_word" (defArgs (topS 5)) (defBody (topS 5)) (defScope (topS 5)) .none kV5 dc5 pm5 an5 cd5 ct5), sl5⟩) (c5 : PySem.W.codeIn K cd5 "is_word" = true) (k5 : PySem.W.keepIn K (.ref f5) = true)
    {f6 : Addr} {od6 an6 : Option Addr} {sl6 : Array (Option Value)} {oc6 kV6 dc6 pm6 cd6 ct6 : Value}
    (a6 : PySem.W.nsIn K mainGlobals "are_words" = some (some (.ref f6))) (l6 : K.lookup f6 = some ⟨oc6, od6, .func (PySem.W.fnOf "are_words" "are_words" (defArgs (topS 6)) (defBody (topS 6)) (defScope (topS 6)) .none kV6 dc6 pm6 an6 cd6 ct6), sl6⟩) (c6 : PySem.W.codeIn K cd6 "are_words" = true) (k6 : PySem.W.keepIn K (.ref f6) = true)
    {f7 : Addr} {od7 an7 : Option Addr} {sl7 : Array (Option Value)} {oc7 kV7 dc7 pm7 cd7 ct7 : Value}
    (a7 : PySem.W.nsIn K mainGlobals "is_lots" = some (some (.ref f7))) (l7 : K.lookup f7 = some ⟨oc7, od7, .func (PySem.W.fnOf "is_lots" "is_lots" (defArgs (topS 7)) (defBody (topS 7)) (defScope (topS 7)) .none kV7 dc7 pm7 an7 cd7 ct7), sl7⟩) (c7 : PySem.W.codeIn K cd7 "is_lots" = true) (k7 : PySem.W.keepIn K (.ref f7) = true)
    {f9 : Addr} {od9 an9 : Option Addr} {sl9 : Array (Option Value)} {oc9 kV9 dc9 pm9 cd9 ct9 : Value}
    (a9 : PySem.W.nsIn K mainGlobals "are_names" = some (some (.ref f9))) (l9 : K.lookup f9 = some ⟨oc9, od9, .func (PySem.W.fnOf "are_names" "are_names" (defArgs (topS 9)) (defBody (topS 9)) (defScope (topS 9)) .none kV9 dc9 pm9 an9 cd9 ct9), sl9⟩) (c9 : PySem.W.codeIn K cd9 "are_names" = true) (k9 : PySem.W.keepIn K (.ref f9) = true)
    {f10 : Addr} {od10 an10 : Option Addr} {sl10 : Array (Option Value)} {oc10 kV10 dc10 pm10 cd10 ct10 : Value}
    (a10 : PySem.W.nsIn K mainGlobals "is_pile" = some (some (.ref f10))) (l10 : K.lookup f10 = some ⟨oc10, od10, .func (PySem.W.fnOf "is_pile" "is_pile" (defArgs (topS 10)) (defBody (topS 10)) (defScope (topS 10)) .none kV10 dc10 pm10 an10 cd10 ct10), sl10⟩) (c10 : PySem.W.codeIn K cd10 "is_pile" = true) (k10 : PySem.W.keepIn K (.ref f10) = true)
    {f11 : Addr} {od11 an11 : Option Addr} {sl11 : Array (Option Value)} {oc11 kV11 dc11 pm11 cd11 ct11 : Value}
    (a11 : PySem.W.nsIn K mainGlobals "is_count" = some (some (.ref f11))) (l11 : K.lookup f11 = some ⟨oc11, od11, .func (PySem.W.fnOf "is_count" "is_count" (defArgs (topS 11)) (defBody (topS 11)) (defScope (topS 11)) .none kV11 dc11 pm11 an11 cd11 ct11), sl11⟩) (c11 : PySem.W.codeIn K cd11 "is_count" = true) (k11 : PySem.W.keepIn K (.ref f11) = true)
    {f13 : Addr} {od13 an13 : Option Addr} {sl13 : Array (Option Value)} {oc13 kV13 dc13 pm13 cd13 ct13 : Value}
    (a13 : PySem.W.nsIn K mainGlobals "_law_tap" = some (some (.ref f13))) (l13 : K.lookup f13 = some ⟨oc13, od13, .func (PySem.W.fnOf "_law_tap" "_law_tap" (defArgs (topS 13)) (defBody (topS 13)) (defScope (topS 13)) .none kV13 dc13 pm13 an13 cd13 ct13), sl13⟩) (c13 : PySem.W.codeIn K cd13 "_law_tap" = true) (k13 : PySem.W.keepIn K (.ref f13) = true)
    {f14 : Addr} {od14 an14 : Option Addr} {sl14 : Array (Option Value)} {oc14 kV14 dc14 pm14 cd14 ct14 : Value}
    (a14 : PySem.W.nsIn K mainGlobals "_law_take" = some (some (.ref f14))) (l14 : K.lookup f14 = some ⟨oc14, od14, .func (PySem.W.fnOf "_law_take" "_law_take" (defArgs (topS 14)) (defBody (topS 14)) (defScope (topS 14)) .none kV14 dc14 pm14 an14 cd14 ct14), sl14⟩) (c14 : PySem.W.codeIn K cd14 "_law_take" = true) (k14 : PySem.W.keepIn K (.ref f14) = true)
    {f15 : Addr} {od15 an15 : Option Addr} {sl15 : Array (Option Value)} {oc15 kV15 dc15 pm15 cd15 ct15 : Value}
    (a15 : PySem.W.nsIn K mainGlobals "_law_lots" = some (some (.ref f15))) (l15 : K.lookup f15 = some ⟨oc15, od15, .func (PySem.W.fnOf "_law_lots" "_law_lots" (defArgs (topS 15)) (defBody (topS 15)) (defScope (topS 15)) .none kV15 dc15 pm15 an15 cd15 ct15), sl15⟩) (c15 : PySem.W.codeIn K cd15 "_law_lots" = true) (k15 : PySem.W.keepIn K (.ref f15) = true)
    {f16 : Addr} {od16 an16 : Option Addr} {sl16 : Array (Option Value)} {oc16 kV16 dc16 pm16 cd16 ct16 : Value}
    (a16 : PySem.W.nsIn K mainGlobals "_law_others" = some (some (.ref f16))) (l16 : K.lookup f16 = some ⟨oc16, od16, .func (PySem.W.fnOf "_law_others" "_law_others" (defArgs (topS 16)) (defBody (topS 16)) (defScope (topS 16)) .none kV16 dc16 pm16 an16 cd16 ct16), sl16⟩) (c16 : PySem.W.codeIn K cd16 "_law_others" = true) (k16 : PySem.W.keepIn K (.ref f16) = true)
    {f17 : Addr} {od17 an17 : Option Addr} {sl17 : Array (Option Value)} {oc17 kV17 dc17 pm17 cd17 ct17 : Value}
    (a17 : PySem.W.nsIn K mainGlobals "_law_names" = some (some (.ref f17))) (l17 : K.lookup f17 = some ⟨oc17, od17, .func (PySem.W.fnOf "_law_names" "_law_names" (defArgs (topS 17)) (defBody (topS 17)) (defScope (topS 17)) .none kV17 dc17 pm17 an17 cd17 ct17), sl17⟩) (c17 : PySem.W.codeIn K cd17 "_law_names" = true) (k17 : PySem.W.keepIn K (.ref f17) = true)
    {f18 : Addr} {od18 an18 : Option Addr} {sl18 : Array (Option Value)} {oc18 kV18 dc18 pm18 cd18 ct18 : Value}
    (a18 : PySem.W.nsIn K mainGlobals "_law_count" = some (some (.ref f18))) (l18 : K.lookup f18 = some ⟨oc18, od18, .func (PySem.W.fnOf "_law_count" "_law_count" (defArgs (topS 18)) (defBody (topS 18)) (defScope (topS 18)) .none kV18 dc18 pm18 an18 cd18 ct18), sl18⟩) (c18 : PySem.W.codeIn K cd18 "_law_count" = true) (k18 : PySem.W.keepIn K (.ref f18) = true)
    {f19 : Addr} {od19 an19 : Option Addr} {sl19 : Array (Option Value)} {oc19 kV19 dc19 pm19 cd19 ct19 : Value}
    (a19 : PySem.W.nsIn K mainGlobals "_law_odd" = some (some (.ref f19))) (l19 : K.lookup f19 = some ⟨oc19, od19, .func (PySem.W.fnOf "_law_odd" "_law_odd" (defArgs (topS 19)) (defBody (topS 19)) (defScope (topS 19)) .none kV19 dc19 pm19 an19 cd19 ct19), sl19⟩) (c19 : PySem.W.codeIn K cd19 "_law_odd" = true) (k19 : PySem.W.keepIn K (.ref f19) = true)
    {f20 : Addr} {od20 an20 : Option Addr} {sl20 : Array (Option Value)} {oc20 kV20 dc20 pm20 cd20 ct20 : Value}
    (a20 : PySem.W.nsIn K mainGlobals "_law_bend" = some (some (.ref f20))) (l20 : K.lookup f20 = some ⟨oc20, od20, .func (PySem.W.fnOf "_law_bend" "_law_bend" (defArgs (topS 20)) (defBody (topS 20)) (defScope (topS 20)) .none kV20 dc20 pm20 an20 cd20 ct20), sl20⟩) (c20 : PySem.W.codeIn K cd20 "_law_bend" = true) (k20 : PySem.W.keepIn K (.ref f20) = true)
    {f21 : Addr} {od21 an21 : Option Addr} {sl21 : Array (Option Value)} {oc21 kV21 dc21 pm21 cd21 ct21 : Value}
    (a21 : PySem.W.nsIn K mainGlobals "_law_is_number" = some (some (.ref f21))) (l21 : K.lookup f21 = some ⟨oc21, od21, .func (PySem.W.fnOf "_law_is_number" "_law_is_number" (defArgs (topS 21)) (defBody (topS 21)) (defScope (topS 21)) .none kV21 dc21 pm21 an21 cd21 ct21), sl21⟩) (c21 : PySem.W.codeIn K cd21 "_law_is_number" = true) (k21 : PySem.W.keepIn K (.ref f21) = true)
    {f22 : Addr} {od22 an22 : Option Addr} {sl22 : Array (Option Value)} {oc22 kV22 dc22 pm22 cd22 ct22 : Value}
    (a22 : PySem.W.nsIn K mainGlobals "_law_is_word" = some (some (.ref f22))) (l22 : K.lookup f22 = some ⟨oc22, od22, .func (PySem.W.fnOf "_law_is_word" "_law_is_word" (defArgs (topS 22)) (defBody (topS 22)) (defScope (topS 22)) .none kV22 dc22 pm22 an22 cd22 ct22), sl22⟩) (c22 : PySem.W.codeIn K cd22 "_law_is_word" = true) (k22 : PySem.W.keepIn K (.ref f22) = true)
    {f23 : Addr} {od23 an23 : Option Addr} {sl23 : Array (Option Value)} {oc23 kV23 dc23 pm23 cd23 ct23 : Value}
    (a23 : PySem.W.nsIn K mainGlobals "_law_are_rising" = some (some (.ref f23))) (l23 : K.lookup f23 = some ⟨oc23, od23, .func (PySem.W.fnOf "_law_are_rising" "_law_are_rising" (defArgs (topS 23)) (defBody (topS 23)) (defScope (topS 23)) .none kV23 dc23 pm23 an23 cd23 ct23), sl23⟩) (c23 : PySem.W.codeIn K cd23 "_law_are_rising" = true) (k23 : PySem.W.keepIn K (.ref f23) = true)
    {f24 : Addr} {od24 an24 : Option Addr} {sl24 : Array (Option Value)} {oc24 kV24 dc24 pm24 cd24 ct24 : Value}
    (a24 : PySem.W.nsIn K mainGlobals "_law_is_pile" = some (some (.ref f24))) (l24 : K.lookup f24 = some ⟨oc24, od24, .func (PySem.W.fnOf "_law_is_pile" "_law_is_pile" (defArgs (topS 24)) (defBody (topS 24)) (defScope (topS 24)) .none kV24 dc24 pm24 an24 cd24 ct24), sl24⟩) (c24 : PySem.W.codeIn K cd24 "_law_is_pile" = true) (k24 : PySem.W.keepIn K (.ref f24) = true)
    {f25 : Addr} {od25 an25 : Option Addr} {sl25 : Array (Option Value)} {oc25 kV25 dc25 pm25 cd25 ct25 : Value}
    (a25 : PySem.W.nsIn K mainGlobals "_law_is_count" = some (some (.ref f25))) (l25 : K.lookup f25 = some ⟨oc25, od25, .func (PySem.W.fnOf "_law_is_count" "_law_is_count" (defArgs (topS 25)) (defBody (topS 25)) (defScope (topS 25)) .none kV25 dc25 pm25 an25 cd25 ct25), sl25⟩) (c25 : PySem.W.codeIn K cd25 "_law_is_count" = true) (k25 : PySem.W.keepIn K (.ref f25) = true)
    {f26 : Addr} {od26 an26 : Option Addr} {sl26 : Array (Option Value)} {oc26 kV26 dc26 pm26 cd26 ct26 : Value}
    (a26 : PySem.W.nsIn K mainGlobals "_law_things" = some (some (.ref f26))) (l26 : K.lookup f26 = some ⟨oc26, od26, .func (PySem.W.fnOf "_law_things" "_law_things" (defArgs (topS 26)) (defBody (topS 26)) (defScope (topS 26)) .none kV26 dc26 pm26 an26 cd26 ct26), sl26⟩) (c26 : PySem.W.codeIn K cd26 "_law_things" = true) (k26 : PySem.W.keepIn K (.ref f26) = true)
    {f27 : Addr} {od27 an27 : Option Addr} {sl27 : Array (Option Value)} {oc27 kV27 dc27 pm27 cd27 ct27 : Value}
    (a27 : PySem.W.nsIn K mainGlobals "_law_great" = some (some (.ref f27))) (l27 : K.lookup f27 = some ⟨oc27, od27, .func (PySem.W.fnOf "_law_great" "_law_great" (defArgs (topS 27)) (defBody (topS 27)) (defScope (topS 27)) .none kV27 dc27 pm27 an27 cd27 ct27), sl27⟩) (c27 : PySem.W.codeIn K cd27 "_law_great" = true) (k27 : PySem.W.keepIn K (.ref f27) = true)
    {f28 : Addr} {od28 an28 : Option Addr} {sl28 : Array (Option Value)} {oc28 kV28 dc28 pm28 cd28 ct28 : Value}
    (a28 : PySem.W.nsIn K mainGlobals "law" = some (some (.ref f28))) (l28 : K.lookup f28 = some ⟨oc28, od28, .func (PySem.W.fnOf "law" "law" (defArgs (topS 28)) (defBody (topS 28)) (defScope (topS 28)) .none kV28 dc28 pm28 an28 cd28 ct28), sl28⟩) (c28 : PySem.W.codeIn K cd28 "law" = true) (k28 : PySem.W.keepIn K (.ref f28) = true)
    {tk0 : Tok} (y0 : PySem.W.nsIn K mainGlobals "LONGEST" = some (some (.int 8 tk0)))
    {tk1 : Tok} (y1 : PySem.W.nsIn K mainGlobals "LETTERS" = some (some (.str (Str.ofString "abcdefghijklmnopqrstuvwxyz") tk1)))
    (z0 : PySem.W.nsIn K mainGlobals "isinstance" = some none) (z1 : PySem.W.nsIn K mainGlobals "int" = some none) (z2 : PySem.W.nsIn K mainGlobals "bool" = some none) (z3 : PySem.W.nsIn K mainGlobals "str" = some none) (z4 : PySem.W.nsIn K mainGlobals "len" = some none) (z5 : PySem.W.nsIn K mainGlobals "all" = some none) (z6 : PySem.W.nsIn K mainGlobals "tuple" = some none) (z7 : PySem.W.nsIn K mainGlobals "set" = some none) (z8 : PySem.W.nsIn K mainGlobals "range" = some none) (z9 : PySem.W.nsIn K mainGlobals "list" = some none) (z10 : PySem.W.nsIn K mainGlobals "sorted" = some none) (z11 : PySem.W.nsIn K mainGlobals "repr" = some none) :
    ∃ fd : FuncData, (∀ (s : Shared) (v : Value), BindsTo s fd ⟨[v], []⟩ [("script", v)]) ∧ (∀ y ∈ tabN, ∀ c P, PySem.W.tabIn K y = some (c, P) → K.lookup P = none) ∧ ∀ base : Heap, K.In base → base.Ns mainGlobals mg → TabsB K mg base → FnZ ⟨l.prog, w, K, mg, base⟩ 33 fa fd ["script"] (spZ K 1 φ28) := by
  have e := hfa.symm.trans (PySem.W.mg_of X G a28)
  cases e
  have U3 := fun_mk (st := topS 3) l3 c3 k3
  have U4 := fun_mk (st := topS 4) l4 c4 k4
  have U5 := fun_mk (st := topS 5) l5 c5 k5
  have U6 := fun_mk (st := topS 6) l6 c6 k6
  have U7 := fun_mk (st := topS 7) l7 c7 k7
  have U9 := fun_mk (st := topS 9) l9 c9 k9
  have U10 := fun_mk (st := topS 10) l10 c10 k10
  have U11 := fun_mk (st := topS 11) l11 c11 k11
  have U13 := fun_mk (st := topS 13) l13 c13 k13
  have U14 := fun_mk (st := topS 14) l14 c14 k14
  have U15 := fun_mk (st := topS 15) l15 c15 k15
  have U16 := fun_mk (st := topS 16) l16 c16 k16
  have U17 := fun_mk (st := topS 17) l17 c17 k17
  have U18 := fun_mk (st := topS 18) l18 c18 k18
  have U19 := fun_mk (st := topS 19) l19 c19 k19
  have U20 := fun_mk (st := topS 20) l20 c20 k20
  have U21 := fun_mk (st := topS 21) l21 c21 k21
  have U22 := fun_mk (st := topS 22) l22 c22 k22
  have U23 := fun_mk (st := topS 23) l23 c23 k23
  have U24 := fun_mk (st := topS 24) l24 c24 k24
  have U25 := fun_mk (st := topS 25) l25 c25 k25
  have U26 := fun_mk (st := topS 26) l26 c26 k26
  have U27 := fun_mk (st := topS 27) l27 c27 k27
  have U28 := fun_mk (st := topS 28) l28 c28 k28
  refine ⟨PySem.W.fnOf "law" "law" (defArgs (topS 28)) (defBody (topS 28)) (defScope (topS 28)) .none kV28 dc28 pm28 an28 cd28 ct28, fun s v => .of_eq rfl, ?tabs, fun base _ _ TB => ?_⟩
  case tabs =>
    intro y hy c P e
    simp only [tabN, List.mem_cons, List.not_mem_nil, or_false] at hy
  have hbl : ∀ y ∈ bs, mg y = none := fun y hy => by
    simp only [bs, List.mem_cons, List.not_mem_nil, or_false] at hy
    rcases hy with rfl | rfl | rfl | rfl | rfl | rfl | rfl | rfl | rfl | rfl | rfl | rfl
    · exact PySem.W.mg_none_of X G z0
    · exact PySem.W.mg_none_of X G z1
    · exact PySem.W.mg_none_of X G z2
    · exact PySem.W.mg_none_of X G z3
    · exact PySem.W.mg_none_of X G z4
    · exact PySem.W.mg_none_of X G z5
    · exact PySem.W.mg_none_of X G z6
    · exact PySem.W.mg_none_of X G z7
    · exact PySem.W.mg_none_of X G z8
    · exact PySem.W.mg_none_of X G z9
    · exact PySem.W.mg_none_of X G z10
    · exact PySem.W.mg_none_of X G z11
  have g0 : GV ⟨l.prog, w, K, mg, base⟩ "LONGEST" (.int 8) := GV.int (PySem.W.mg_of X G y0)
  have g1 : GV ⟨l.prog, w, K, mg, base⟩ "LETTERS" (.str (Str.ofString "abcdefghijklmnopqrstuvwxyz")) := GV.str (PySem.W.mg_of X G y1)
  have F3 : Fz ⟨l.prog, w, K, mg, base⟩ 4 "is_number" 1 φ3 := fz_mk (bs := bs) (k := 3) U3 (PySem.W.mg_of X G a3) (U3.binds (ps := ["thing"]) fun _ _ _ _ _ _ us hl => match us, hl with | [_], _ => rfl) rfl sc3 rfl hbl fun X c => zb3  c
  have F4 : Fz ⟨l.prog, w, K, mg, base⟩ 5 "is_from" 1 φ4 := fz_mk (bs := bs) (k := 4) U4 (PySem.W.mg_of X G a4) (U4.binds (ps := ["thing"]) fun _ _ _ _ _ _ us hl => match us, hl with | [_], _ => rfl) rfl sc4 rfl hbl fun X c => zb4  (F3.mono (by decide)) c
  have F5 : Fz ⟨l.prog, w, K, mg, base⟩ 6 "is_word" 1 φ5 := fz_mk (bs := bs) (k := 5) U5 (PySem.W.mg_of X G a5) (U5.binds (ps := ["thing"]) fun _ _ _ _ _ _ us hl => match us, hl with | [_], _ => rfl) rfl sc5 rfl hbl fun X c => zb5  (g0) (g1) c
  have F6 : Fz ⟨l.prog, w, K, mg, base⟩ 7 "are_words" 1 φ6 := fz_mk (bs := bs) (k := 6) U6 (PySem.W.mg_of X G a6) (U6.binds (ps := ["thing"]) fun _ _ _ _ _ _ us hl => match us, hl with | [_], _ => rfl) rfl sc6 rfl hbl fun X c => zb6  (F5.mono (by decide)) c
  have F7 : Fz ⟨l.prog, w, K, mg, base⟩ 8 "is_lots" 1 φ7 := fz_mk (bs := bs) (k := 7) U7 (PySem.W.mg_of X G a7) (U7.binds (ps := ["thing"]) fun _ _ _ _ _ _ us hl => match us, hl with | [_], _ => rfl) rfl sc7 rfl hbl fun X c => zb7  (F6.mono (by decide)) c
  have F9 : Fz ⟨l.prog, w, K, mg, base⟩ 10 "are_names" 2 φ9 := fz_mk (bs := bs) (k := 9) U9 (PySem.W.mg_of X G a9) (U9.binds (ps := ["lots", "thing"]) fun _ _ _ _ _ _ us hl => match us, hl with | [_, _], _ => rfl) rfl sc9 rfl hbl fun X c => zb9  (F6.mono (by decide)) c
  have F10 : Fz ⟨l.prog, w, K, mg, base⟩ 11 "is_pile" 2 φ10 := fz_mk (bs := bs) (k := 10) U10 (PySem.W.mg_of X G a10) (U10.binds (ps := ["lots", "thing"]) fun _ _ _ _ _ _ us hl => match us, hl with | [_, _], _ => rfl) rfl sc10 rfl hbl fun X c => zb10  (F6.mono (by decide)) (F4.mono (by decide)) (F9.mono (by decide)) c
  have F11 : Fz ⟨l.prog, w, K, mg, base⟩ 12 "is_count" 1 φ11 := fz_mk (bs := bs) (k := 11) U11 (PySem.W.mg_of X G a11) (U11.binds (ps := ["thing"]) fun _ _ _ _ _ _ us hl => match us, hl with | [_], _ => rfl) rfl sc11 rfl hbl fun X c => zb11  (F7.mono (by decide)) (F10.mono (by decide)) (F9.mono (by decide)) c
  have F13 : Fz ⟨l.prog, w, K, mg, base⟩ 14 "_law_tap" 1 φ13 := fz_mkN (bs := bs) (k := 13) U13 (PySem.W.mg_of X G a13) (U13.binds (ps := ["script"]) fun _ _ _ _ _ _ us hl => match us, hl with | [_], _ => rfl) rfl sc13 rfl hbl fun X c => zb13  c
  have F14 : Fz ⟨l.prog, w, K, mg, base⟩ 15 "_law_take" 2 φ14 := fz_mk (bs := bs) (k := 14) U14 (PySem.W.mg_of X G a14) (U14.binds (ps := ["tap", "many"]) fun _ _ _ _ _ _ us hl => match us, hl with | [_, _], _ => rfl) rfl sc14 rfl hbl fun X c => zb14  c
  have F15 : Fz ⟨l.prog, w, K, mg, base⟩ 16 "_law_lots" 2 φ15 := fz_mk (bs := bs) (k := 15) U15 (PySem.W.mg_of X G a15) (U15.binds (ps := ["tap", "many"]) fun _ _ _ _ _ _ us hl => match us, hl with | [_, _], _ => rfl) rfl sc15 rfl hbl fun X c => zb15  (F14.mono (by decide)) c
  have F16 : Fz ⟨l.prog, w, K, mg, base⟩ 17 "_law_others" 4 φ16 := fz_mk (bs := bs) (k := 16) U16 (PySem.W.mg_of X G a16) (U16.binds (ps := ["tap", "lots", "name", "most"]) fun _ _ _ _ _ _ us hl => match us, hl with | [_, _, _, _], _ => rfl) rfl sc16 rfl hbl fun X c => zb16  (F14.mono (by decide)) c
  have F17 : Fz ⟨l.prog, w, K, mg, base⟩ 18 "_law_names" 2 φ17 := fz_mk (bs := bs) (k := 17) U17 (PySem.W.mg_of X G a17) (U17.binds (ps := ["tap", "lots"]) fun _ _ _ _ _ _ us hl => match us, hl with | [_, _], _ => rfl) rfl sc17 rfl hbl fun X c => zb17  (F14.mono (by decide)) c
  have F18 : Fz ⟨l.prog, w, K, mg, base⟩ 19 "_law_count" 1 φ18 := fz_mk (bs := bs) (k := 18) U18 (PySem.W.mg_of X G a18) (U18.binds (ps := ["tap"]) fun _ _ _ _ _ _ us hl => match us, hl with | [_], _ => rfl) rfl sc18 rfl hbl fun X c => zb18  (F15.mono (by decide)) (F14.mono (by decide)) (F16.mono (by decide)) (F17.mono (by decide)) c
  have F19 : Fz ⟨l.prog, w, K, mg, base⟩ 20 "_law_odd" 1 φ19 := fz_mk (bs := bs) (k := 19) U19 (PySem.W.mg_of X G a19) (U19.binds (ps := ["tap"]) fun _ _ _ _ _ _ us hl => match us, hl with | [_], _ => rfl) rfl sc19 rfl hbl fun X c => zb19  (F14.mono (by decide)) c
  have F20 : Fz ⟨l.prog, w, K, mg, base⟩ 25 "_law_bend" 3 φ20 := fz_rec (bs := bs) (k0 := 20) U20 (PySem.W.mg_of X G a20) (U20.binds (ps := ["tap", "thing", "deep"]) fun _ _ _ _ _ _ us hl => match us, hl with | [_, _, _], _ => rfl) rfl sc20 rfl hbl (fun κ ψ hκ Fr X c => zb20  (F14.mono (Nat.le_trans (by decide) hκ)) (F19.mono (Nat.le_trans (by decide) hκ)) Fr c) 5
  have F21 : Fz ⟨l.prog, w, K, mg, base⟩ 26 "_law_is_number" 1 φ21 := fz_mk (bs := bs) (k := 25) U21 (PySem.W.mg_of X G a21) (U21.binds (ps := ["thing"]) fun _ _ _ _ _ _ us hl => match us, hl with | [_], _ => rfl) rfl sc21 rfl hbl fun X c => zb21  c
  have F22 : Fz ⟨l.prog, w, K, mg, base⟩ 27 "_law_is_word" 1 φ22 := fz_mk (bs := bs) (k := 26) U22 (PySem.W.mg_of X G a22) (U22.binds (ps := ["thing"]) fun _ _ _ _ _ _ us hl => match us, hl with | [_], _ => rfl) rfl sc22 rfl hbl fun X c => zb22  c
  have F23 : Fz ⟨l.prog, w, K, mg, base⟩ 28 "_law_are_rising" 2 φ23 := fz_mk (bs := bs) (k := 27) U23 (PySem.W.mg_of X G a23) (U23.binds (ps := ["lots", "thing"]) fun _ _ _ _ _ _ us hl => match us, hl with | [_, _], _ => rfl) rfl sc23 rfl hbl fun X c => zb23  (F22.mono (by decide)) c
  have F24 : Fz ⟨l.prog, w, K, mg, base⟩ 29 "_law_is_pile" 2 φ24 := fz_mk (bs := bs) (k := 28) U24 (PySem.W.mg_of X G a24) (U24.binds (ps := ["lots", "row"]) fun _ _ _ _ _ _ us hl => match us, hl with | [_, _], _ => rfl) rfl sc24 rfl hbl fun X c => zb24  (F22.mono (by decide)) (F21.mono (by decide)) (F23.mono (by decide)) c
  have F25 : Fz ⟨l.prog, w, K, mg, base⟩ 30 "_law_is_count" 1 φ25 := fz_mk (bs := bs) (k := 29) U25 (PySem.W.mg_of X G a25) (U25.binds (ps := ["thing"]) fun _ _ _ _ _ _ us hl => match us, hl with | [_], _ => rfl) rfl sc25 rfl hbl fun X c => zb25  (F22.mono (by decide)) (F24.mono (by decide)) (F23.mono (by decide)) c
  have F26 : Fz ⟨l.prog, w, K, mg, base⟩ 31 "_law_things" 2 φ26 := fz_mk (bs := bs) (k := 30) U26 (PySem.W.mg_of X G a26) (U26.binds (ps := ["tap", "count"]) fun _ _ _ _ _ _ us hl => match us, hl with | [_, _], _ => rfl) rfl sc26 rfl hbl fun X c => zb26  (F20.mono (by decide)) (F19.mono (by decide)) c
  have F27 : Fz ⟨l.prog, w, K, mg, base⟩ 32 "_law_great" 1 φ27 := fz_mk (bs := bs) (k := 31) U27 (PySem.W.mg_of X G a27) (U27.binds (ps := ["tap"]) fun _ _ _ _ _ _ us hl => match us, hl with | [_], _ => rfl) rfl sc27 rfl hbl fun X c => zb27  (F14.mono (by decide)) c
  exact z_fn (k := 32) U28 sc28 rfl hbl fun X c => zb28  (F13.mono (by decide)) (F27.mono (by decide)) (F11.mono (by decide)) (F25.mono (by decide)) (F26.mono (by decide)) (F18.mono (by decide)) c
end Lwk05

namespace Lwk05
open PySem PySem.Spec L2 Z
theorem take05 : TakeS φ14 := take_spec
theorem odd05 : OddTN φ19 := oddTN_spec take05
theorem b20_eq (ψ : Phi) : b20 ψ = bBend φ14 φ19 ψ := by
  unfold b20 bBend bBendA bBendB bBendT bBendT2 bBendC bBendD bBendE
  rfl
theorem bend05 : BendSN 5 φ20 := by
  unfold φ20
  rw [show b20 = bBend φ14 φ19 from funext b20_eq]
  exact bend_allN take05 odd05 5
theorem b27_eq : b27 = bGr27 φ14 bGr27d bGr27e bGr27f := by
  unfold b27 bGr27 bGr27d bGr27e bGr27f fGreat letQ
  rfl
theorem great05 : GreatQ5 φ27 := by
  unfold φ27
  rw [b27_eq]
  exact great27_spec rfl rfl rfl take05
theorem b26_eq : b26 = bTg26 bTg3 bTg4 bTg5 bTg6 (bTg7 φ20) (bTg8 φ19) := by
  unfold b26 bTg26 bTg3 bTg4 bTg5 bTg6 bTg7 bTg8
  rfl
theorem things05 : Things5 φ26 := by
  unfold φ26
  rw [b26_eq]
  exact things26_spec rfl rfl rfl rfl rfl rfl bend05 odd05
theorem num05 : ThS φ3 isNumD := numberT
theorem from05 : ThS φ4 isFromD := fromT num05
theorem word05 : ThS φ5 isWordD := wordT
theorem words05 : ThS φ6 areWordsD := words_spec word05
theorem islots05 : ThL φ7 isLotsD := isLots_spec words05
theorem names05 : NamS φ9 := names9_spec words05
theorem pile05 : PilS φ10 := pile10_spec words05 from05 names05
theorem count05 : ThC φ11 countD := count11_spec (φl := φ7) rfl rfl islots05 pile05 names05
theorem num05L : ThS φ21 isNumD := numberT
theorem word05L : ThS φ22 isWordD := wordL1
theorem ris05 : NamS φ23 := ris23_spec rfl rfl word05L
theorem pile05L : PilS φ24 := pile24_spec word05L num05L ris05
theorem count05L : ThC φ25 countD := cnt25_spec (φw := φ22) (φp := φ24) (φr := φ23) rfl rfl rfl rfl rfl word05L pile05L ris05
theorem cnt05 : CountS φ18 := count_spec take05 (lots_spec take05) (others_spec take05) (names_spec take05)
theorem repr_bl5 {b : Bool} {s : Sto} : gRepr [.bl b] s = .ok (.str (pd (.bl b)).shown) s := repr_gb (n := 1) (by simp [gb]) (by decide) (by simp [wb])
def bAsk5a (pa pb : Phi) : Fn Ct := (fIfS (fTest (fBin gNe (fCall gRepr (fCons (fCall pa (fCons (fVar 2) (fNil))) (fNil))) (fCall gRepr (fCons (fCall pb (fCons (fVar 2) (fNil))) (fNil))))) (fRet (fC (.bl false))) (fNop))
def bAsk5b (pa pb : Phi) : Fn Ct := (fSeq (fSet 4 (fCall gRepr (fCons (fVar 2) (fNil))))
  (fIfS (fOrT (fTest (fBin gNe (fCall gRepr (fCons (fCall pa (fCons (fVar 2) (fNil))) (fNil))) (fCall gRepr (fCons (fCall pb (fCons (fVar 2) (fNil))) (fNil))))) (fTest (fBin gNe (fCall gRepr (fCons (fVar 2) (fNil))) (fVar 4)))) (fRet (fC (.bl false))) (fNop)))
def bLaw5 (pT pG pC pQ : Phi) (ba bb : Fn Ct) : Fn Ct :=
  fSeq (fSet 1 (fCall pT (fCons (fVar 0) (fNil))))
  (fSeq (fFor (fSrc (fCall pG (fCons (fVar 1) (fNil)))) (gNm 2) ba)
  (fSeq (fFor (fRng1 (fCons (fC (.int 2)) (fNil))) (gNm 3) (fFor (fSrc (fCall pQ (fCons (fVar 1) (fCons (fCall pC (fCons (fVar 1) (fNil))) (fNil))))) (gNm 2) bb))
  (fRet (fC (.bl true)))))
theorem ask5a {pa pb : Phi} {b : Fn Ct} (hb : b = bAsk5a pa pb) (ha : ThC pa countD) (hc : ThC pb countD) {d : Dv} (hd : Bd 30 160000 d) {v0 v1 v3 v4 : Option Dv} {s : Sto} {R : Ct → Sto → Prop} (hR : R (.next [v0, v1, some d, v3, v4]) s) : OkE nX (b [v0, v1, some d, v3, v4] s) R := by
  subst hb
  have ht := hd.thg (by decide) (by decide)
  unfold bAsk5a
  simp only [Y1,Qf,Qt,Qu,Qa,Qg,Qv,Qw,Qx,Qy,Qh,Qz,Jy,Qi,Qb,Qj,Qk,Q0,Jz,Q1,Q2,J0,Q3,Q4,J1,Ql,Qm,Qn,Q5,Qo,Q6,Qp,Q7,Q8,J2,Q9,Ja,J3,J4,J5,Jb,J6,J7,Jc,J8,J9,Jd,Je,Ya,Jf,Yb,Jg,Jh,Y8,Yc,Ji,Yd,Ye,Yf,Yg,Yh,Y2,Jj,Qq,Jk,Yi,Jl,Jm,Yj,Y3,Yk,Yl,Y4,Ym,Y5,Yn,Qc,Yo,Jn,Yp,Yq,Y6,Yr,Qd,Jo,Jp,Y7,Ys,Yt,Yu,Yv,Yw,Yx,Jq,Jr,Qr,Js,Yy,Qe,Qs,List.set_cons_zero,List.set_cons_succ,List.map_cons,List.map_nil,List.replicate,List.cons_append,List.nil_append,List.length_cons,List.length_nil,Bool.false_eq_true,eq_self,if_true,if_false,Nat.zero_add,Jt,Yz,Ju,Jv,Jw,Y0,Jx,true_and]
  refine ha d s _ ht hd.t ?_
  simp only [Y1,Qf,Qt,Qu,Qa,Qg,Qv,Qw,Qx,Qy,Qh,Qz,Jy,Qi,Qb,Qj,Qk,Q0,Jz,Q1,Q2,J0,Q3,Q4,J1,Ql,Qm,Qn,Q5,Qo,Q6,Qp,Q7,Q8,J2,Q9,Ja,J3,J4,J5,Jb,J6,J7,Jc,J8,J9,Jd,Je,Ya,Jf,Yb,Jg,Jh,Y8,Yc,Ji,Yd,Ye,Yf,Yg,Yh,Y2,Jj,Qq,Jk,Yi,Jl,Jm,Yj,Y3,Yk,Yl,Y4,Ym,Y5,Yn,Qc,Yo,Jn,Yp,Yq,Y6,Yr,Qd,Jo,Jp,Y7,Ys,Yt,Yu,Yv,Yw,Yx,Jq,Jr,Qr,Js,Yy,Qe,Qs,List.set_cons_zero,List.set_cons_succ,List.map_cons,List.map_nil,List.replicate,List.cons_append,List.nil_append,List.length_cons,List.length_nil,Bool.false_eq_true,eq_self,if_true,if_false,Nat.zero_add,Jt,Yz,Ju,Jv,Jw,Y0,Jx,true_and,repr_bl5]
  refine hc d s _ ht hd.t ?_
  simp only [Y1,Qf,Qt,Qu,Qa,Qg,Qv,Qw,Qx,Qy,Qh,Qz,Jy,Qi,Qb,Qj,Qk,Q0,Jz,Q1,Q2,J0,Q3,Q4,J1,Ql,Qm,Qn,Q5,Qo,Q6,Qp,Q7,Q8,J2,Q9,Ja,J3,J4,J5,Jb,J6,J7,Jc,J8,J9,Jd,Je,Ya,Jf,Yb,Jg,Jh,Y8,Yc,Ji,Yd,Ye,Yf,Yg,Yh,Y2,Jj,Qq,Jk,Yi,Jl,Jm,Yj,Y3,Yk,Yl,Y4,Ym,Y5,Yn,Qc,Yo,Jn,Yp,Yq,Y6,Yr,Qd,Jo,Jp,Y7,Ys,Yt,Yu,Yv,Yw,Yx,Jq,Jr,Qr,Js,Yy,Qe,Qs,List.set_cons_zero,List.set_cons_succ,List.map_cons,List.map_nil,List.replicate,List.cons_append,List.nil_append,List.length_cons,List.length_nil,Bool.false_eq_true,eq_self,if_true,if_false,Nat.zero_add,Jt,Yz,Ju,Jv,Jw,Y0,Jx,true_and,repr_bl5,ne_str,BEq.rfl,Bool.not_true]
  exact hR
theorem ask5b {pa pb : Phi} {b : Fn Ct} (hb : b = bAsk5b pa pb) (ha : ThC pa countD) (hc : ThC pb countD) {d : Dv} (hd : Bd 30 160000 d) {v0 v1 v3 v4 : Option Dv} {s : Sto} {R : Ct → Sto → Prop} (hR : ∀ v4, R (.next [v0, v1, some d, v3, v4]) s) : OkE nX (b [v0, v1, some d, v3, v4] s) R := by
  subst hb
  have ht := hd.thg (by decide) (by decide)
  have er : ∀ s : Sto, gRepr [d] s = .ok (.str (pd d).shown) s := fun s => repr_gb hd.g (by decide) hd.w
  unfold bAsk5b
  simp only [Y1,Qf,Qt,Qu,Qa,Qg,Qv,Qw,Qx,Qy,Qh,Qz,Jy,Qi,Qb,Qj,Qk,Q0,Jz,Q1,Q2,J0,Q3,Q4,J1,Ql,Qm,Qn,Q5,Qo,Q6,Qp,Q7,Q8,J2,Q9,Ja,J3,J4,J5,Jb,J6,J7,Jc,J8,J9,Jd,Je,Ya,Jf,Yb,Jg,Jh,Y8,Yc,Ji,Yd,Ye,Yf,Yg,Yh,Y2,Jj,Qq,Jk,Yi,Jl,Jm,Yj,Y3,Yk,Yl,Y4,Ym,Y5,Yn,Qc,Yo,Jn,Yp,Yq,Y6,Yr,Qd,Jo,Jp,Y7,Ys,Yt,Yu,Yv,Yw,Yx,Jq,Jr,Qr,Js,Yy,Qe,Qs,List.set_cons_zero,List.set_cons_succ,List.map_cons,List.map_nil,List.replicate,List.cons_append,List.nil_append,List.length_cons,List.length_nil,Bool.false_eq_true,eq_self,if_true,if_false,Nat.zero_add,Jt,Yz,Ju,Jv,Jw,Y0,Jx,true_and,er]
  refine ha d s _ ht hd.t ?_
  simp only [Y1,Qf,Qt,Qu,Qa,Qg,Qv,Qw,Qx,Qy,Qh,Qz,Jy,Qi,Qb,Qj,Qk,Q0,Jz,Q1,Q2,J0,Q3,Q4,J1,Ql,Qm,Qn,Q5,Qo,Q6,Qp,Q7,Q8,J2,Q9,Ja,J3,J4,J5,Jb,J6,J7,Jc,J8,J9,Jd,Je,Ya,Jf,Yb,Jg,Jh,Y8,Yc,Ji,Yd,Ye,Yf,Yg,Yh,Y2,Jj,Qq,Jk,Yi,Jl,Jm,Yj,Y3,Yk,Yl,Y4,Ym,Y5,Yn,Qc,Yo,Jn,Yp,Yq,Y6,Yr,Qd,Jo,Jp,Y7,Ys,Yt,Yu,Yv,Yw,Yx,Jq,Jr,Qr,Js,Yy,Qe,Qs,List.set_cons_zero,List.set_cons_succ,List.map_cons,List.map_nil,List.replicate,List.cons_append,List.nil_append,List.length_cons,List.length_nil,Bool.false_eq_true,eq_self,if_true,if_false,Nat.zero_add,Jt,Yz,Ju,Jv,Jw,Y0,Jx,true_and,repr_bl5]
  refine hc d s _ ht hd.t ?_
  simp only [Y1,Qf,Qt,Qu,Qa,Qg,Qv,Qw,Qx,Qy,Qh,Qz,Jy,Qi,Qb,Qj,Qk,Q0,Jz,Q1,Q2,J0,Q3,Q4,J1,Ql,Qm,Qn,Q5,Qo,Q6,Qp,Q7,Q8,J2,Q9,Ja,J3,J4,J5,Jb,J6,J7,Jc,J8,J9,Jd,Je,Ya,Jf,Yb,Jg,Jh,Y8,Yc,Ji,Yd,Ye,Yf,Yg,Yh,Y2,Jj,Qq,Jk,Yi,Jl,Jm,Yj,Y3,Yk,Yl,Y4,Ym,Y5,Yn,Qc,Yo,Jn,Yp,Yq,Y6,Yr,Qd,Jo,Jp,Y7,Ys,Yt,Yu,Yv,Yw,Yx,Jq,Jr,Qr,Js,Yy,Qe,Qs,List.set_cons_zero,List.set_cons_succ,List.map_cons,List.map_nil,List.replicate,List.cons_append,List.nil_append,List.length_cons,List.length_nil,Bool.false_eq_true,eq_self,if_true,if_false,Nat.zero_add,Jt,Yz,Ju,Jv,Jw,Y0,Jx,true_and,repr_bl5,ne_str,BEq.rfl,Bool.not_true,er]
  exact hR _
theorem law5 {pT pG pC pQ pa pb : Phi} {ba bb : Fn Ct} (hba : ba = bAsk5a pa pb) (hbb : bb = bAsk5b pa pb) (hT : TapS pT) (hG : GreatQ5 pG) (hC : CountS pC) (hQ : Things5 pQ) (ha : ThC pa countD) (hc : ThC pb countD) (ns : List Int) : OkE nX (fDef 1 5 (bLaw5 pT pG pC pQ ba bb) [.ls (ns.map .int)] []) (fun d s' => d = .bl true) := by
  rw [ok_def]
  refine ⟨rfl, ?_⟩
  unfold bLaw5
  simp only [Y1,Qf,Qt,Qu,Qa,Qg,Qv,Qw,Qx,Qy,Qh,Qz,Jy,Qi,Qb,Qj,Qk,Q0,Jz,Q1,Q2,J0,Q3,Q4,J1,Ql,Qm,Qn,Q5,Qo,Q6,Qp,Q7,Q8,J2,Q9,Ja,J3,J4,J5,Jb,J6,J7,Jc,J8,J9,Jd,Je,Ya,Jf,Yb,Jg,Jh,Y8,Yc,Ji,Yd,Ye,Yf,Yg,Yh,Y2,Jj,Qq,Jk,Yi,Jl,Jm,Yj,Y3,Yk,Yl,Y4,Ym,Y5,Yn,Qc,Yo,Jn,Yp,Yq,Y6,Yr,Qd,Jo,Jp,Y7,Ys,Yt,Yu,Yv,Yw,Yx,Jq,Jr,Qr,Js,Yy,Qe,Qs,List.set_cons_zero,List.set_cons_succ,List.map_cons,List.map_nil,List.replicate,List.cons_append,List.nil_append,List.length_cons,List.length_nil,Bool.false_eq_true,eq_self,if_true,if_false,Nat.zero_add,Jt,Yz,Ju,Jv,Jw,Y0,Jx,true_and]
  refine (hT ns).mono ?_
  rintro d s ⟨t, rfl, rfl, hw, hc0⟩
  simp only [Y1,Qf,Qt,Qu,Qa,Qg,Qv,Qw,Qx,Qy,Qh,Qz,Jy,Qi,Qb,Qj,Qk,Q0,Jz,Q1,Q2,J0,Q3,Q4,J1,Ql,Qm,Qn,Q5,Qo,Q6,Qp,Q7,Q8,J2,Q9,Ja,J3,J4,J5,Jb,J6,J7,Jc,J8,J9,Jd,Je,Ya,Jf,Yb,Jg,Jh,Y8,Yc,Ji,Yd,Ye,Yf,Yg,Yh,Y2,Jj,Qq,Jk,Yi,Jl,Jm,Yj,Y3,Yk,Yl,Y4,Ym,Y5,Yn,Qc,Yo,Jn,Yp,Yq,Y6,Yr,Qd,Jo,Jp,Y7,Ys,Yt,Yu,Yv,Yw,Yx,Jq,Jr,Qr,Js,Yy,Qe,Qs,List.set_cons_zero,List.set_cons_succ,List.map_cons,List.map_nil,List.replicate,List.cons_append,List.nil_append,List.length_cons,List.length_nil,Bool.false_eq_true,eq_self,if_true,if_false,Nat.zero_add,Jt,Yz,Ju,Jv,Jw,Y0,Jx,true_and]
  refine (hG t [] hw (by omega) Fl.nil).mono ?_
  rintro d s ⟨ds, t1, rfl, hds, hdl, rfl, hw1, hg1⟩
  simp only [Y1,Qf,Qt,Qu,Qa,Qg,Qv,Qw,Qx,Qy,Qh,Qz,Jy,Qi,Qb,Qj,Qk,Q0,Jz,Q1,Q2,J0,Q3,Q4,J1,Ql,Qm,Qn,Q5,Qo,Q6,Qp,Q7,Q8,J2,Q9,Ja,J3,J4,J5,Jb,J6,J7,Jc,J8,J9,Jd,Je,Ya,Jf,Yb,Jg,Jh,Y8,Yc,Ji,Yd,Ye,Yf,Yg,Yh,Y2,Jj,Qq,Jk,Yi,Jl,Jm,Yj,Y3,Yk,Yl,Y4,Ym,Y5,Yn,Qc,Yo,Jn,Yp,Yq,Y6,Yr,Qd,Jo,Jp,Y7,Ys,Yt,Yu,Yv,Yw,Yx,Jq,Jr,Qr,Js,Yy,Qe,Qs,List.set_cons_zero,List.set_cons_succ,List.map_cons,List.map_nil,List.replicate,List.cons_append,List.nil_append,List.length_cons,List.length_nil,Bool.false_eq_true,eq_self,if_true,if_false,Nat.zero_add,Jt,Yz,Ju,Jv,Jw,Y0,Jx,true_and]
  refine ok_loop (fun i e s => ∃ (v2 : Option Dv), e = [some (.ls (ns.map .int)), some (.loc 0), v2, none, none] ∧ s = [tapOb t1])
    (fun _ _ _ _ => rfl) (fun i d e s hd h => ?_) (fun e s h => ?_) ⟨none, rfl, rfl⟩
  · obtain ⟨v2, rfl, rfl⟩ := h
    simp only [Y1,Qf,Qt,Qu,Qa,Qg,Qv,Qw,Qx,Qy,Qh,Qz,Jy,Qi,Qb,Qj,Qk,Q0,Jz,Q1,Q2,J0,Q3,Q4,J1,Ql,Qm,Qn,Q5,Qo,Q6,Qp,Q7,Q8,J2,Q9,Ja,J3,J4,J5,Jb,J6,J7,Jc,J8,J9,Jd,Je,Ya,Jf,Yb,Jg,Jh,Y8,Yc,Ji,Yd,Ye,Yf,Yg,Yh,Y2,Jj,Qq,Jk,Yi,Jl,Jm,Yj,Y3,Yk,Yl,Y4,Ym,Y5,Yn,Qc,Yo,Jn,Yp,Yq,Y6,Yr,Qd,Jo,Jp,Y7,Ys,Yt,Yu,Yv,Yw,Yx,Jq,Jr,Qr,Js,Yy,Qe,Qs,List.set_cons_zero,List.set_cons_succ,List.map_cons,List.map_nil,List.replicate,List.cons_append,List.nil_append,List.length_cons,List.length_nil,Bool.false_eq_true,eq_self,if_true,if_false,Nat.zero_add,Jt,Yz,Ju,Jv,Jw,Y0,Jx,true_and]
    exact ask5a hba ha hc (hds d (List.mem_of_getElem? hd)) ⟨_, rfl, rfl⟩
  · obtain ⟨v2, rfl, rfl⟩ := h
    simp only [Y1,Qf,Qt,Qu,Qa,Qg,Qv,Qw,Qx,Qy,Qh,Qz,Jy,Qi,Qb,Qj,Qk,Q0,Jz,Q1,Q2,J0,Q3,Q4,J1,Ql,Qm,Qn,Q5,Qo,Q6,Qp,Q7,Q8,J2,Q9,Ja,J3,J4,J5,Jb,J6,J7,Jc,J8,J9,Jd,Je,Ya,Jf,Yb,Jg,Jh,Y8,Yc,Ji,Yd,Ye,Yf,Yg,Yh,Y2,Jj,Qq,Jk,Yi,Jl,Jm,Yj,Y3,Yk,Yl,Y4,Ym,Y5,Yn,Qc,Yo,Jn,Yp,Yq,Y6,Yr,Qd,Jo,Jp,Y7,Ys,Yt,Yu,Yv,Yw,Yx,Jq,Jr,Qr,Js,Yy,Qe,Qs,List.set_cons_zero,List.set_cons_succ,List.map_cons,List.map_nil,List.replicate,List.cons_append,List.nil_append,List.length_cons,List.length_nil,Bool.false_eq_true,eq_self,if_true,if_false,Nat.zero_add,Jt,Yz,Ju,Jv,Jw,Y0,Jx,true_and]
    refine ⟨by decide, ?_⟩
    refine ok_loop (fun i e s => ∃ (t' : Tap) (v2 v3 v4 : Option Dv), e = [some (.ls (ns.map .int)), some (.loc 0), v2, v3, v4] ∧ s = [tapOb t'] ∧ t'.Wf ∧ t'.calls ≤ 1 + 1500 * i ∧ 0 ≤ t'.calls)
      (fun _ _ _ _ => rfl) (fun i d e s hd h => ?_) (fun e s h => ?_) ⟨t1, v2, none, none, rfl, rfl, hw1, by omega, by omega⟩
    · obtain ⟨t2, v2, v3, v4, rfl, rfl, hw2, hl2, hg2⟩ := h
      obtain ⟨hi, rfl⟩ := rngD_get hd
      have hi : i < 2 := hi
      simp only [Y1,Qf,Qt,Qu,Qa,Qg,Qv,Qw,Qx,Qy,Qh,Qz,Jy,Qi,Qb,Qj,Qk,Q0,Jz,Q1,Q2,J0,Q3,Q4,J1,Ql,Qm,Qn,Q5,Qo,Q6,Qp,Q7,Q8,J2,Q9,Ja,J3,J4,J5,Jb,J6,J7,Jc,J8,J9,Jd,Je,Ya,Jf,Yb,Jg,Jh,Y8,Yc,Ji,Yd,Ye,Yf,Yg,Yh,Y2,Jj,Qq,Jk,Yi,Jl,Jm,Yj,Y3,Yk,Yl,Y4,Ym,Y5,Yn,Qc,Yo,Jn,Yp,Yq,Y6,Yr,Qd,Jo,Jp,Y7,Ys,Yt,Yu,Yv,Yw,Yx,Jq,Jr,Qr,Js,Yy,Qe,Qs,List.set_cons_zero,List.set_cons_succ,List.map_cons,List.map_nil,List.replicate,List.cons_append,List.nil_append,List.length_cons,List.length_nil,Bool.false_eq_true,eq_self,if_true,if_false,Nat.zero_add,Jt,Yz,Ju,Jv,Jw,Y0,Jx,true_and]
      refine (hC t2 [] hw2 (by omega) Fl.nil).mono ?_
      rintro d s ⟨c, t3, rfl, hcn, rfl, hw3, hg3, hl3⟩
      simp only [Y1,Qf,Qt,Qu,Qa,Qg,Qv,Qw,Qx,Qy,Qh,Qz,Jy,Qi,Qb,Qj,Qk,Q0,Jz,Q1,Q2,J0,Q3,Q4,J1,Ql,Qm,Qn,Q5,Qo,Q6,Qp,Q7,Q8,J2,Q9,Ja,J3,J4,J5,Jb,J6,J7,Jc,J8,J9,Jd,Je,Ya,Jf,Yb,Jg,Jh,Y8,Yc,Ji,Yd,Ye,Yf,Yg,Yh,Y2,Jj,Qq,Jk,Yi,Jl,Jm,Yj,Y3,Yk,Yl,Y4,Ym,Y5,Yn,Qc,Yo,Jn,Yp,Yq,Y6,Yr,Qd,Jo,Jp,Y7,Ys,Yt,Yu,Yv,Yw,Yx,Jq,Jr,Qr,Js,Yy,Qe,Qs,List.set_cons_zero,List.set_cons_succ,List.map_cons,List.map_nil,List.replicate,List.cons_append,List.nil_append,List.length_cons,List.length_nil,Bool.false_eq_true,eq_self,if_true,if_false,Nat.zero_add,Jt,Yz,Ju,Jv,Jw,Y0,Jx,true_and]
      refine (hQ t3 [] c hw3 (by omega) hcn Fl.nil).mono ?_
      rintro d s ⟨ds2, t4, rfl, hds2, hdl2, rfl, hw4, hg4, hl4⟩
      simp only [Y1,Qf,Qt,Qu,Qa,Qg,Qv,Qw,Qx,Qy,Qh,Qz,Jy,Qi,Qb,Qj,Qk,Q0,Jz,Q1,Q2,J0,Q3,Q4,J1,Ql,Qm,Qn,Q5,Qo,Q6,Qp,Q7,Q8,J2,Q9,Ja,J3,J4,J5,Jb,J6,J7,Jc,J8,J9,Jd,Je,Ya,Jf,Yb,Jg,Jh,Y8,Yc,Ji,Yd,Ye,Yf,Yg,Yh,Y2,Jj,Qq,Jk,Yi,Jl,Jm,Yj,Y3,Yk,Yl,Y4,Ym,Y5,Yn,Qc,Yo,Jn,Yp,Yq,Y6,Yr,Qd,Jo,Jp,Y7,Ys,Yt,Yu,Yv,Yw,Yx,Jq,Jr,Qr,Js,Yy,Qe,Qs,List.set_cons_zero,List.set_cons_succ,List.map_cons,List.map_nil,List.replicate,List.cons_append,List.nil_append,List.length_cons,List.length_nil,Bool.false_eq_true,eq_self,if_true,if_false,Nat.zero_add,Jt,Yz,Ju,Jv,Jw,Y0,Jx,true_and]
      refine ok_loop (fun i e s => ∃ (v2 v3 v4 : Option Dv), e = [some (.ls (ns.map .int)), some (.loc 0), v2, v3, v4] ∧ s = [tapOb t4])
        (fun _ _ _ _ => rfl) (fun j d e s hd h => ?_) (fun e s h => ?_) ⟨_, _, _, rfl, rfl⟩
      · obtain ⟨v2, v3, v4, rfl, rfl⟩ := h
        simp only [Y1,Qf,Qt,Qu,Qa,Qg,Qv,Qw,Qx,Qy,Qh,Qz,Jy,Qi,Qb,Qj,Qk,Q0,Jz,Q1,Q2,J0,Q3,Q4,J1,Ql,Qm,Qn,Q5,Qo,Q6,Qp,Q7,Q8,J2,Q9,Ja,J3,J4,J5,Jb,J6,J7,Jc,J8,J9,Jd,Je,Ya,Jf,Yb,Jg,Jh,Y8,Yc,Ji,Yd,Ye,Yf,Yg,Yh,Y2,Jj,Qq,Jk,Yi,Jl,Jm,Yj,Y3,Yk,Yl,Y4,Ym,Y5,Yn,Qc,Yo,Jn,Yp,Yq,Y6,Yr,Qd,Jo,Jp,Y7,Ys,Yt,Yu,Yv,Yw,Yx,Jq,Jr,Qr,Js,Yy,Qe,Qs,List.set_cons_zero,List.set_cons_succ,List.map_cons,List.map_nil,List.replicate,List.cons_append,List.nil_append,List.length_cons,List.length_nil,Bool.false_eq_true,eq_self,if_true,if_false,Nat.zero_add,Jt,Yz,Ju,Jv,Jw,Y0,Jx,true_and]
        exact ask5b hbb ha hc (hds2 d (List.mem_of_getElem? hd)) fun v4 => ⟨_, _, _, rfl, rfl⟩
      · obtain ⟨v2, v3, v4, rfl, rfl⟩ := h
        exact ⟨t4, _, _, _, rfl, rfl, hw4, by push_cast; omega, by omega⟩
    · obtain ⟨t2, v2, v3, v4, rfl, rfl, hw2, hl2, hg2⟩ := h
      simp only [Y1,Qf,Qt,Qu,Qa,Qg,Qv,Qw,Qx,Qy,Qh,Qz,Jy,Qi,Qb,Qj,Qk,Q0,Jz,Q1,Q2,J0,Q3,Q4,J1,Ql,Qm,Qn,Q5,Qo,Q6,Qp,Q7,Q8,J2,Q9,Ja,J3,J4,J5,Jb,J6,J7,Jc,J8,J9,Jd,Je,Ya,Jf,Yb,Jg,Jh,Y8,Yc,Ji,Yd,Ye,Yf,Yg,Yh,Y2,Jj,Qq,Jk,Yi,Jl,Jm,Yj,Y3,Yk,Yl,Y4,Ym,Y5,Yn,Qc,Yo,Jn,Yp,Yq,Y6,Yr,Qd,Jo,Jp,Y7,Ys,Yt,Yu,Yv,Yw,Yx,Jq,Jr,Qr,Js,Yy,Qe,Qs,List.set_cons_zero,List.set_cons_succ,List.map_cons,List.map_nil,List.replicate,List.cons_append,List.nil_append,List.length_cons,List.length_nil,Bool.false_eq_true,eq_self,if_true,if_false,Nat.zero_add,Jt,Yz,Ju,Jv,Jw,Y0,Jx,true_and]
      exact ok_gc (b := []) (l := [tapOb t2]) (d := .bl true) (T := fun d s' => d = .bl true) rfl Fl.nil rfl rfl
theorem b28_eq : b28 = bLaw5 φ13 φ27 φ18 φ26 (bAsk5a φ11 φ25) (bAsk5b φ11 φ25) := by
  unfold b28 bLaw5 bAsk5a bAsk5b
  rfl
theorem plain : ∀ ns : List Int, ns.length ≤ 63 → ∃ s', φ28 [.ls (ns.map .int)] [] = .ok (.bl true) s' := by
  intro ns _
  suffices h : OkE nX (φ28 [.ls (ns.map .int)] []) (fun d s' => d = .bl true) by
    obtain ⟨d, s', e, rfl⟩ := h.get
    exact ⟨s', e⟩
  unfold φ28
  rw [b28_eq]
  exact law5 rfl rfl tap_spec great05 cnt05 things05 count05 count05L ns
end Lwk05

open PySem PySem.W PyProof.Rows
set_option maxHeartbeats 0 in
theorem PySem.Challenge.cw_countbundles_k05_counts_by_kind_holds : PySem.Challenge.rw_countbundles_k05_counts_by_kind.Holds := by
  w_on; o_law; k_head; (case hw => w_witness2)
  k_fill
  refine Z.walkZ (l := PySem.Challenge.rw_countbundles_k05_counts_by_kind) (n := 63) (k := 33) (x := "script") (φ := Lwk05.φ28) rfl (by decide) rfl ⟨rfl, by decide, by decide⟩ (fun w h Y => by first | exact PySem.W.km_in_of Y | exact PySem.W.kIn_of Y) ?F Lwk05.plain
  case F =>
    intro w mg fa h KX G hmg
    refine' Lwk05.all_mk KX G hmg ?a3 ?l3 ?c3 ?k3 ?a4 ?l4 ?c4 ?k4 ?a5 ?l5 ?c5 ?k5 ?a6 ?l6 ?c6 ?k6 ?a7 ?l7 ?c7 ?k7 ?a9 ?l9 ?c9 ?k9 ?a10 ?l10 ?c10 ?k10 ?a11 ?l11 ?c11 ?k11 ?a13 ?l13 ?c13 ?k13 ?a14 ?l14 ?c14 ?k14 ?a15 ?l15 ?c15 ?k15 ?a16 ?l16 ?c16 ?k16 ?a17 ?l17 ?c17 ?k17 ?a18 ?l18 ?c18 ?k18 ?a19 ?l19 ?c19 ?k19 ?a20 ?l20 ?c20 ?k20 ?a21 ?l21 ?c21 ?k21 ?a22 ?l22 ?c22 ?k22 ?a23 ?l23 ?c23 ?k23 ?a24 ?l24 ?c24 ?k24 ?a25 ?l25 ?c25 ?k25 ?a26 ?l26 ?c26 ?k26 ?a27 ?l27 ?c27 ?k27 ?a28 ?l28 ?c28 ?k28 ?y0 ?y1 ?z0 ?z1 ?z2 ?z3 ?z4 ?z5 ?z6 ?z7 ?z8 ?z9 ?z10 ?z11
    (case a3 => k_is); (case l3 => k_is); (case c3 => k_is); (case k3 => k_is); (case a4 => k_is); (case l4 => k_is); (case c4 => k_is); (case k4 => k_is); (case a5 => k_is); (case l5 => k_is); (case c5 => k_is); (case k5 => k_is); (case a6 => k_is); (case l6 => k_is); (case c6 => k_is); (case k6 => k_is); (case a7 => k_is); (case l7 => k_is); (case c7 => k_is); (case k7 => k_is); (case a9 => k_is); (case l9 => k_is); (case c9 => k_is); (case k9 => k_is); (case a10 => k_is); (case l10 => k_is); (case c10 => k_is); (case k10 => k_is); (case a11 => k_is); (case l11 => k_is); (case c11 => k_is); (case k11 => k_is); (case a13 => k_is); (case l13 => k_is); (case c13 => k_is); (case k13 => k_is); (case a14 => k_is); (case l14 => k_is); (case c14 => k_is); (case k14 => k_is); (case a15 => k_is); (case l15 => k_is); (case c15 => k_is); (case k15 => k_is); (case a16 => k_is); (case l16 => k_is); (case c16 => k_is); (case k16 => k_is); (case a17 => k_is); (case l17 => k_is); (case c17 => k_is); (case k17 => k_is); (case a18 => k_is); (case l18 => k_is); (case c18 => k_is); (case k18 => k_is); (case a19 => k_is); (case l19 => k_is); (case c19 => k_is); (case k19 => k_is); (case a20 => k_is); (case l20 => k_is); (case c20 => k_is); (case k20 => k_is); (case a21 => k_is); (case l21 => k_is); (case c21 => k_is); (case k21 => k_is); (case a22 => k_is); (case l22 => k_is); (case c22 => k_is); (case k22 => k_is); (case a23 => k_is); (case l23 => k_is); (case c23 => k_is); (case k23 => k_is); (case a24 => k_is); (case l24 => k_is); (case c24 => k_is); (case k24 => k_is); (case a25 => k_is); (case l25 => k_is); (case c25 => k_is); (case k25 => k_is); (case a26 => k_is); (case l26 => k_is); (case c26 => k_is); (case k26 => k_is); (case a27 => k_is); (case l27 => k_is); (case c27 => k_is); (case k27 => k_is); (case a28 => k_is); (case l28 => k_is); (case c28 => k_is); (case k28 => k_is); (case y0 => k_is); (case y1 => k_is); (case z0 => k_is); (case z1 => k_is); (case z2 => k_is); (case z3 => k_is); (case z4 => k_is); (case z5 => k_is); (case z6 => k_is); (case z7 => k_is); (case z8 => k_is); (case z9 => k_is); (case z10 => k_is); (case z11 => k_is)
