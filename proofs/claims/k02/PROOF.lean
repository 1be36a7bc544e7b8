import PyProof.Rows.All
import Wide.All
import OpenK.AllK
import Wide.FinOn
import HandS.ForMost
import HandS.SortKw
import HandS.Deep
import HandS.Strs
import HandS.Conv
import HandS.Zip
import HandS.Rev
import HandS.RevRange
import HandS.Flow
import HandS.IsInst
import HandS.Wide
import HandS.TupAny
import HandS.TupMul
import HandS.Lambda
import HandS.EndTab
import HandS.FStr
import HandS.StrMore
import KE.SortData
import KE.SortKeyHeap
import HandS.Style
import PyProof.TupleOfSeq
import PyProof.Transfer
import KE.GoesMore
import KE.GoesEnum
import KE.KTupSum
import HandS.Defaults
import PyProof.Conv_int_bool
import KE.KxIndex
import KE.KDictSum
import HandS.ExcCtx
import HandS.ExcInit
import HandS.ExcInitHot
import HandS.ExcIs
import HandS.ExcField
import HandS.CallSlots
import HandS.HotCalls
import KE.KTryMore
import KE.KExcInit
import PyProof.SumAny
import HandS.NoneIn
import KE.KRevSl
import HandS.SetKeys
import HandS.Text
import PyProof.Rows.IntBool
import PyProof.CallStr
import HandS.Iter
import KE.DataMinKey
import PyProof.StrLawsIn
import PySem.Challenge.RW_countbundles_k02_orders
set_option Elab.async false
set_option linter.all false
set_option maxRecDepth 100000
set_option maxHeartbeats 4000000
namespace Z
open PySem PySem.Spec PyProof.Rows L2

/-! ### plain data, the store of what may change, results -/
/-- lists and dicts -/
def MutH : Option HO → Prop
  | some (.lst _) => True
  | some (.dK _) => True
  | some (.dT _) => True
  | _ => False
/-- the defs of the text in which lambdas are made -/
def tabN : List Str := ["order_of", "_law_right"]
/-- .. how such a lambda is called -/
def lamQ (x : Str) : Str := (x ++ (".<locals>." : Str)) ++ ("<lambda>" : Str)
/-- plain data; ls: a list that nobody changes; loc n: the n-th thing of the store -/
inductive Dv where
  | non | bl (b : Bool) | int (i : Int) | str (s : Str) | tup (ds : List Dv) | ls (ds : List Dv) | loc (n : Nat) | xn (a d : Addr) (c : Nat) (fs : List Dv)
/-- the names of the fields of an error of the program, by its number -/
def fldN : Nat → List Str
  | 0 => ["word", "at"]
  | 1 => ["number"]
  | 2 => ["word"]
  | 3 => ["row", "word"]
  | 4 => ["row"]
  | 5 => ["name"]
  | 6 => ["pile"]
  | 7 => ["step"]
  | 8 => ["number"]
  | _ => []
/-- what may change -/
inductive Ob where
  | lst (ds : List Dv) | dk (kvs : List (Key × Dv)) | dt (kvs : List (List Key × Dv))
abbrev Sto := List Ob
inductive Rs (α : Type) where
  | ok (a : α) (s : Sto) | exc (e : Dv) (s : Sto) | bad
def Rs.bind {α β : Type} (r : Rs α) (f : α → Sto → Rs β) : Rs β := match r with
  | .ok a s => f a s
  | .exc e s => .exc e s
  | .bad => .bad
theorem Rs.bind_ok {α β : Type} {r : Rs α} {f : α → Sto → Rs β} {b : β} {s' : Sto} (h : r.bind f = .ok b s') : ∃ a s, r = .ok a s ∧ f a s = .ok b s' := by
  cases r with
  | ok a s => exact ⟨a, s, rfl, h⟩
  | exc e s => cases h
  | bad => cases h
abbrev En := List (Option Dv)
abbrev Fn (α : Type) := En → Sto → Rs α

/-- where the store's things lie; what is laid aside for the moment -/
structure Lo where
  locs : List Addr
  hid : List Addr
/-- a list at a that nobody changes -/
def Ls (K : PySem.W.Frag) (B : Lo) (H : Hp) (a : Addr) (xs : List V) : Prop :=
  (H a = some (.lst xs) ∧ a ∉ B.locs ∧ a ∉ B.hid) ∨ (∃ o, H a = some (.frz o (.lst xs))) ∨
    ∃ (o : Obj) (its : Array Value) (n : Nat), K.lookup a = some o ∧ o.cls = .type "list" ∧ o.dict = none ∧ o.data = .seq its n ∧ its.size ≤ sizeLine ∧ Vals xs its.toList
theorem Ls.sq {K : PySem.W.Frag} {B : Lo} {H : Hp} {a : Addr} {xs : List V} (h : Ls K B H a xs) : SqL K H a xs := by
  rcases h with ⟨h, _⟩ | h | h
  · exact .inl (.inl h)
  · exact .inl (.inr h)
  · exact .inr h
/-- a tuple at a, its head plain -/
def Tk (K : PySem.W.Frag) (H : Hp) (a : Addr) (xs : List V) : Prop :=
  (∃ o, H a = some (.frz o (.tup xs)) ∧ o.dict = none) ∨
    ∃ (o : Obj) (its : Array Value) (n : Nat), K.lookup a = some o ∧ o.cls = .type "tuple" ∧ o.dict = none ∧ o.data = .seq its n ∧ its.size ≤ sizeLine ∧ Vals xs its.toList
theorem Tk.sq {K : PySem.W.Frag} {H : Hp} {a : Addr} {xs : List V} (h : Tk K H a xs) : SqT K H a xs := by
  rcases h with ⟨o, h, _⟩ | ⟨o, its, n, h1, h2, _, h3⟩
  · exact .inl (.inr ⟨o, h⟩)
  · exact .inr ⟨o, its, n, h1, h2, h3⟩
mutual
inductive Rp (K : PySem.W.Frag) (B : Lo) (H : Hp) : Dv → V → Prop
  | non : Rp K B H .non .non
  | bl (b : Bool) : Rp K B H (.bl b) (.bl b)
  | int (i : Int) : Rp K B H (.int i) (.int i)
  | str (x : Str) : Rp K B H (.str x) (.str x)
  | tup {a : Addr} {xs : List V} {ds : List Dv} : Tk K H a xs → Rps K B H ds xs → Rp K B H (.tup ds) (.ref a)
  | ls {a : Addr} {xs : List V} {ds : List Dv} : Ls K B H a xs → Rps K B H ds xs → Rp K B H (.ls ds) (.ref a)
  | loc {n : Nat} {a : Addr} : B.locs[n]? = some a → Rp K B H (.loc n) (.ref a)
  | xn {a d : Addr} {c : Nat} {fs : List Dv} {kvs : List (Str × V)} {vs : List V} : H d = some (.xd kvs) → d ∉ B.locs → d ∉ B.hid → (fldN c).mapM (fun f => kvs.lookup f) = some vs → Rps K B H fs vs → Rp K B H (.xn a d c fs) (.ref a)
inductive Rps (K : PySem.W.Frag) (B : Lo) (H : Hp) : List Dv → List V → Prop
  | nil : Rps K B H [] []
  | cons {d : Dv} {v : V} {ds : List Dv} {vs : List V} : Rp K B H d v → Rps K B H ds vs → Rps K B H (d :: ds) (v :: vs)
end
/-- what a stretch of running may do to what is tracked -/
structure Mo (B : Lo) (H : Hp) (B' : Lo) (H' : Hp) : Prop where
  pre : B.locs <+: B'.locs
  keep : ∀ b o, H b = some o → b ∉ B.locs → b ∉ B.hid → (∀ ps, o ≠ .tbl ps) → H' b = some o
  tups : ∀ b xs, H b = some (.tup xs) → H' b = some (.tup xs)
  frzs : ∀ b o u, H b = some (.frz o u) → H' b = some (.frz o u)
  new : ∀ b, b ∈ B'.locs ∨ b ∈ B'.hid → b ∈ B.locs ∨ b ∈ B.hid ∨ H b = none
  tbls : ∀ b ps, H b = some (.tbl ps) → ∃ ps', H' b = some (.tbl ps')
theorem tbl_or (o : HO) : (∀ ps, o ≠ .tbl ps) ∨ ∃ ps, o = .tbl ps := by
  cases o
  case tbl ps => exact .inr ⟨ps, rfl⟩
  all_goals exact .inl fun _ z => by cases z
/-- what is there stays there -/
theorem Mo.there {B B' : Lo} {H H' : Hp} (x : Mo B H B' H') {b : Addr} {o : HO} (e : H b = some o) (h1 : b ∉ B.locs) (h2 : b ∉ B.hid) : ∃ u, H' b = some u := by
  rcases tbl_or o with z | ⟨ps, rfl⟩
  · exact ⟨_, x.keep b o e h1 h2 z⟩
  · obtain ⟨q, hq⟩ := x.tbls b ps e
    exact ⟨_, hq⟩
theorem Mo.refl (B : Lo) (H : Hp) : Mo B H B H := ⟨List.prefix_refl _, fun _ _ h _ _ _ => h, fun _ _ h => h, fun _ _ _ h => h, fun _ h => h.elim .inl fun z => .inr (.inl z), fun _ ps h => ⟨ps, h⟩⟩
theorem Mo.trans {B B1 B2 : Lo} {H H1 H2 : Hp} (a : Mo B H B1 H1) (b : Mo B1 H1 B2 H2) : Mo B H B2 H2 where
  pre := a.pre.trans b.pre
  keep := fun c o h hn hh ht => by
    refine b.keep c o (a.keep c o h hn hh ht) (fun z => ?_) (fun z => ?_) ht
    · rcases a.new c (.inl z) with q | q | q
      · exact hn q
      · exact hh q
      · rw [h] at q; cases q
    · rcases a.new c (.inr z) with q | q | q
      · exact hn q
      · exact hh q
      · rw [h] at q; cases q
  tups := fun c xs h => b.tups c xs (a.tups c xs h)
  frzs := fun c o u h => b.frzs c o u (a.frzs c o u h)
  new := fun c h => by
    rcases b.new c h with q | q | q
    · exact a.new c (.inl q)
    · exact a.new c (.inr q)
    · cases e : H c with
      | none => exact .inr (.inr rfl)
      | some o =>
        by_cases hc : c ∈ B.locs
        · exact .inl hc
        · by_cases hh : c ∈ B.hid
          · exact .inr (.inl hh)
          · obtain ⟨u, hu⟩ := a.there e hc hh
            rw [hu] at q; cases q
  tbls := fun c ps h => by
    obtain ⟨q, hq⟩ := a.tbls c ps h
    exact b.tbls c q hq
theorem pre_get {α : Type} {β β' : List α} (h : β <+: β') {n : Nat} {a : α} (e : β[n]? = some a) : β'[n]? = some a := by
  obtain ⟨t, rfl⟩ := h
  have hl : n < β.length := (List.getElem?_eq_some_iff.mp e).1
  rw [List.getElem?_append_left hl]; exact e
section
variable {K : PySem.W.Frag} {B B' : Lo} {H H' : Hp}
theorem Mo.tk (x : Mo B H B' H') {a : Addr} {xs : List V} (h : Tk K H a xs) : Tk K H' a xs := by
  rcases h with ⟨o, h, d⟩ | h
  · exact .inl ⟨o, x.frzs _ _ _ h, d⟩
  · exact .inr h
theorem Mo.ls (x : Mo B H B' H') {a : Addr} {xs : List V} (h : Ls K B H a xs) : Ls K B' H' a xs := by
  rcases h with ⟨h, n, m⟩ | ⟨o, h⟩ | h
  · refine .inl ⟨x.keep _ _ h n m (fun _ z => by cases z), fun z => ?_, fun z => ?_⟩
    · rcases x.new _ (.inl z) with q | q | q
      · exact n q
      · exact m q
      · rw [h] at q; cases q
    · rcases x.new _ (.inr z) with q | q | q
      · exact n q
      · exact m q
      · rw [h] at q; cases q
  · exact .inr (.inl ⟨o, x.frzs _ _ _ h⟩)
  · exact .inr (.inr h)
mutual
theorem Rp.mono (x : Mo B H B' H') : ∀ {d : Dv} {v : V}, Rp K B H d v → Rp K B' H' d v
  | _, _, .non => .non
  | _, _, .bl b => .bl b
  | _, _, .int i => .int i
  | _, _, .str i => .str i
  | _, _, .tup h r => .tup (x.tk h) (Rps.mono x r)
  | _, _, .ls h r => .ls (x.ls h) (Rps.mono x r)
  | _, _, .loc h => .loc (pre_get x.pre h)
  | _, _, .xn h n m l r => .xn (x.keep _ _ h n m (fun _ z => by cases z)) (fun z => by
      rcases x.new _ (.inl z) with q | q | q
      · exact n q
      · exact m q
      · rw [h] at q; cases q) (fun z => by
      rcases x.new _ (.inr z) with q | q | q
      · exact n q
      · exact m q
      · rw [h] at q; cases q) l (Rps.mono x r)
theorem Rps.mono (x : Mo B H B' H') : ∀ {ds : List Dv} {vs : List V}, Rps K B H ds vs → Rps K B' H' ds vs
  | _, _, .nil => .nil
  | _, _, .cons h r => .cons (Rp.mono x h) (Rps.mono x r)
end
theorem Rps.length : ∀ {ds : List Dv} {vs : List V}, Rps K B H ds vs → ds.length = vs.length
  | _, _, .nil => rfl
  | _, _, .cons _ r => congrArg (· + 1) r.length
theorem Rps.get : ∀ {ds : List Dv} {vs : List V}, Rps K B H ds vs → ∀ {i : Nat} {d : Dv}, ds[i]? = some d → ∃ v, vs[i]? = some v ∧ Rp K B H d v
  | _, _, .nil, i, d, e => by simp at e
  | _, _, .cons h r, 0, d, e => by simp at e; subst e; exact ⟨_, rfl, h⟩
  | _, _, .cons h r, i + 1, d, e => by
    obtain ⟨v, h1, h2⟩ := r.get (i := i) (d := d) (by simpa using e)
    exact ⟨v, by simpa using h1, h2⟩
theorem Rps.append : ∀ {ds es : List Dv} {vs us : List V}, Rps K B H ds vs → Rps K B H es us → Rps K B H (ds ++ es) (vs ++ us)
  | _, _, _, _, .nil, s => s
  | _, _, _, _, .cons h r, s => .cons h (r.append s)
theorem Rps.take : ∀ {ds : List Dv} {vs : List V} (n : Nat), Rps K B H ds vs → Rps K B H (ds.take n) (vs.take n)
  | _, _, 0, _ => .nil
  | _, _, _ + 1, .nil => .nil
  | _, _, n + 1, .cons h r => .cons h (r.take n)
theorem Rps.drop : ∀ {ds : List Dv} {vs : List V} (n : Nat), Rps K B H ds vs → Rps K B H (ds.drop n) (vs.drop n)
  | _, _, 0, h => h
  | _, _, _ + 1, .nil => .nil
  | _, _, n + 1, .cons h r => r.drop n
theorem Rps.set : ∀ {ds : List Dv} {vs : List V} (n : Nat) {d : Dv} {v : V}, Rps K B H ds vs → Rp K B H d v → Rps K B H (ds.set n d) (vs.set n v)
  | _, _, _, _, _, .nil, _ => .nil
  | _, _, 0, _, _, .cons h r, q => .cons q r
  | _, _, n + 1, _, _, .cons h r, q => .cons h (r.set n q)
theorem Rps.eraseIdx : ∀ {ds : List Dv} {vs : List V} (n : Nat), Rps K B H ds vs → Rps K B H (ds.eraseIdx n) (vs.eraseIdx n)
  | _, _, _, .nil => .nil
  | _, _, 0, .cons h r => r
  | _, _, n + 1, .cons h r => .cons h (r.eraseIdx n)
theorem Rps.reverse {ds : List Dv} {vs : List V} (h : Rps K B H ds vs) : Rps K B H ds.reverse vs.reverse := by
  induction h using Rps.rec (motive_1 := fun _ _ _ => True) with
  | non => trivial
  | bl => trivial
  | int => trivial
  | str => trivial
  | tup => trivial
  | ls => trivial
  | loc => trivial
  | xn => trivial
  | nil => exact .nil
  | cons h r _ ih =>
    rw [List.reverse_cons, List.reverse_cons]
    exact ih.append (.cons h .nil)
end

/-! ### the store -/
section
variable (K : PySem.W.Frag)
def RpO (B : Lo) (H : Hp) (a : Addr) : Ob → Prop
  | .lst ds => ∃ xs, H a = some (.lst xs) ∧ Rps K B H ds xs
  | .dk kvs => ∃ ks, H a = some (.dK ks) ∧ Paired (fun (p : Key × Dv) (q : Key × V) => p.1 = q.1 ∧ Rp K B H p.2 q.2) kvs ks
  | .dt kvs => ∃ ks, H a = some (.dT ks) ∧ Paired (fun (p : List Key × Dv) (q : List Key × V) => p.1 = q.1 ∧ Rp K B H p.2 q.2) kvs ks
/-- the table at P has lambdas of the name q alone -/
def TabZ (B : Lo) (H : Hp) (P : Addr) (q : Str) : Prop := ∃ ps : Array Value, H P = some (.tbl ps) ∧ TriplesOk ps.toList ∧ ∀ (pos : Pos) (cv : Value), codeAmong pos ps.toList = some cv → ∃ c, cv = .ref c ∧ H c = some (LamX.CodeO c q) ∧ c ∉ B.locs ∧ c ∉ B.hid
structure Sim (B : Lo) (H : Hp) (s : Sto) : Prop where
  nd : B.locs.Nodup
  len : B.locs.length = s.length
  obs : ∀ (n : Nat) (a : Addr) (o : Ob), B.locs[n]? = some a → s[n]? = some o → RpO K B H a o
  hid : ∀ b ∈ B.hid, b ∉ B.locs ∧ ∃ u, H b = some u ∧ MutH (some u)
  tabs : ∀ x ∈ tabN, ∀ c P, PySem.W.tabIn K x = some (c, P) → TabZ B H P (lamQ x)
end
section
variable {K : PySem.W.Frag} {B B' : Lo} {H H' : Hp} {s : Sto}
theorem RpO.mono (x : Mo B H B' H') {a : Addr} (e : H' a = H a) {o : Ob} (h : RpO K B H a o) : RpO K B' H' a o := by
  cases o with
  | lst ds => obtain ⟨xs, h1, h2⟩ := h; exact ⟨xs, e.trans h1, h2.mono x⟩
  | dk kvs => obtain ⟨ks, h1, h2⟩ := h; exact ⟨ks, e.trans h1, Paired.mapP h2 fun p q z => ⟨z.1, z.2.mono x⟩⟩
  | dt kvs => obtain ⟨ks, h1, h2⟩ := h; exact ⟨ks, e.trans h1, Paired.mapP h2 fun p q z => ⟨z.1, z.2.mono x⟩⟩
theorem TabZ.mono (x : Mo B H B' H') {P : Addr} {q : Str} (e : H' P = H P) (h : TabZ B H P q) : TabZ B' H' P q := by
  obtain ⟨ps, h1, h2, h3⟩ := h
  refine ⟨ps, e.trans h1, h2, fun pos cv hc => ?_⟩
  obtain ⟨c, e1, e2, n, m⟩ := h3 pos cv hc
  refine ⟨c, e1, x.keep _ _ e2 n m (fun ps z => LamX.codeO_ne ps z), fun z => ?_, fun z => ?_⟩
  · rcases x.new _ (.inl z) with q | q | q
    · exact n q
    · exact m q
    · rw [e2] at q; cases q
  · rcases x.new _ (.inr z) with q | q | q
    · exact n q
    · exact m q
    · rw [e2] at q; cases q
theorem TabZ.cut {L : List Addr} (hp : L <+: B.locs) {P : Addr} {q : Str} (x : TabZ B H P q) : TabZ ⟨L, B.hid⟩ H P q := by
  obtain ⟨ps, h1, h2, h3⟩ := x
  refine ⟨ps, h1, h2, fun pos cv hc => ?_⟩
  obtain ⟨c, e1, e2, n, m⟩ := h3 pos cv hc
  exact ⟨c, e1, e2, fun z => n (hp.subset z), m⟩
theorem TabZ.ne {P a : Addr} {q : Str} (h : TabZ B H P q) {u : HO} (e : H a = some u) (hm : MutH (some u)) : P ≠ a := fun z => by
  obtain ⟨ps, h1, _⟩ := h
  rw [z, e] at h1; cases h1; exact hm
theorem TabZ.ne0 {P a : Addr} {q : Str} (h : TabZ B H P q) (e : H a = none) : P ≠ a := fun z => by
  obtain ⟨ps, h1, _⟩ := h
  rw [z, e] at h1; cases h1
theorem RpO.there {a : Addr} {o : Ob} (h : RpO K B H a o) : ∃ u, H a = some u ∧ MutH (some u) := by
  cases o with
  | lst ds => obtain ⟨xs, h1, h2⟩ := h; exact ⟨_, h1, trivial⟩
  | dk kvs => obtain ⟨ks, h1, h2⟩ := h; exact ⟨_, h1, trivial⟩
  | dt kvs => obtain ⟨ks, h1, h2⟩ := h; exact ⟨_, h1, trivial⟩
theorem Sim.at (S : Sim K B H s) {n : Nat} {a : Addr} (h : B.locs[n]? = some a) : ∃ o, s[n]? = some o ∧ RpO K B H a o := by
  have hl : n < s.length := by rw [← S.len]; exact (List.getElem?_eq_some_iff.mp h).1
  exact ⟨s[n], List.getElem?_eq_getElem hl, S.obs n a _ h (List.getElem?_eq_getElem hl)⟩
theorem Sim.at' (S : Sim K B H s) {n : Nat} {o : Ob} (h : s[n]? = some o) : ∃ a, B.locs[n]? = some a ∧ RpO K B H a o := by
  have hl : n < B.locs.length := by rw [S.len]; exact (List.getElem?_eq_some_iff.mp h).1
  exact ⟨B.locs[n], List.getElem?_eq_getElem hl, S.obs n _ o (List.getElem?_eq_getElem hl) h⟩
theorem Sim.mem (S : Sim K B H s) {a : Addr} (h : a ∈ B.locs) : ∃ u, H a = some u ∧ MutH (some u) := by
  obtain ⟨n, hn⟩ := List.getElem?_of_mem h
  obtain ⟨o, _, r⟩ := S.at hn
  exact r.there
theorem Sim.free (S : Sim K B H s) {p : Addr} (h : H p = none) : p ∉ B.locs := fun z => by
  obtain ⟨u, e, _⟩ := S.mem z
  rw [h] at e; cases e
theorem Sim.freeH (S : Sim K B H s) {p : Addr} (h : H p = none) : p ∉ B.hid := fun z => by
  obtain ⟨_, xs, e, _⟩ := S.hid p z
  rw [h] at e; cases e
/-- a new thing that the store doesn't have -/
theorem Mo.laid {p : Addr} {o : HO} (h : H p = none) : Mo B H B (upd H p o) :=
  ⟨List.prefix_refl _, fun b u e _ _ _ => by rw [upd_ne (ne_of_none e h)]; exact e, fun b u e => by rw [upd_ne (ne_of_none e h)]; exact e, fun b u v e => by rw [upd_ne (ne_of_none e h)]; exact e, fun _ z => z.elim .inl fun z => .inr (.inl z), fun b ps e => ⟨ps, by rw [upd_ne (ne_of_none e h)]; exact e⟩⟩
/-- .. laid aside -/
theorem Mo.aside {p : Addr} {o : HO} (h : H p = none) : Mo B H ⟨B.locs, p :: B.hid⟩ (upd H p o) :=
  ⟨List.prefix_refl _, fun b u e _ _ _ => by rw [upd_ne (ne_of_none e h)]; exact e, fun b u e => by rw [upd_ne (ne_of_none e h)]; exact e, fun b u v e => by rw [upd_ne (ne_of_none e h)]; exact e, fun b z => by
    rcases z with z | z
    · exact .inl z
    · rcases List.mem_cons.mp z with z | z
      · rw [z]; exact .inr (.inr h)
      · exact .inr (.inl z), fun b ps e => ⟨ps, by rw [upd_ne (ne_of_none e h)]; exact e⟩⟩
theorem Sim.laid (S : Sim K B H s) {p : Addr} {o : HO} (h : H p = none) : Sim K B (upd H p o) s :=
  ⟨S.nd, S.len, fun n a u e1 e2 => by
    obtain ⟨v, ev, _⟩ := (S.obs n a u e1 e2).there
    exact (S.obs n a u e1 e2).mono (Mo.laid h) (upd_ne (ne_of_none ev h)), fun b hb => by
    obtain ⟨h1, xs, e, hm⟩ := S.hid b hb
    exact ⟨h1, xs, (upd_ne (ne_of_none e h)).trans e, hm⟩, fun x hx c P e => (S.tabs x hx c P e).mono (Mo.laid h) (upd_ne ((S.tabs x hx c P e).ne0 h))⟩
theorem Sim.aside (S : Sim K B H s) {p : Addr} {o : HO} (h : H p = none) (hm : MutH (some o) := by trivial) : Sim K ⟨B.locs, p :: B.hid⟩ (upd H p o) s :=
  ⟨S.nd, S.len, fun n a u e1 e2 => by
    obtain ⟨v, ev, _⟩ := (S.obs n a u e1 e2).there
    exact (S.obs n a u e1 e2).mono (Mo.aside h) (upd_ne (ne_of_none ev h)), fun b hb => by
    rcases List.mem_cons.mp hb with z | z
    · subst z; exact ⟨S.free h, _, upd_same, hm⟩
    · obtain ⟨h1, xs, e, hm⟩ := S.hid b z
      exact ⟨h1, xs, (upd_ne (ne_of_none e h)).trans e, hm⟩, fun x hx c P e => (S.tabs x hx c P e).mono (Mo.aside h) (upd_ne ((S.tabs x hx c P e).ne0 h))⟩
/-- what was laid aside is let go: it is a list that nobody changes -/
theorem Mo.back {p : Addr} : Mo ⟨B.locs, p :: B.hid⟩ H B H :=
  ⟨List.prefix_refl _, fun b u e _ _ _ => e, fun b u e => e, fun b u v e => e, fun b z => z.elim .inl fun z => .inr (.inl (List.mem_cons_of_mem _ z)), fun _ ps e => ⟨ps, e⟩⟩
theorem Sim.back {p : Addr} (S : Sim K ⟨B.locs, p :: B.hid⟩ H s) : Sim K B H s :=
  ⟨S.nd, S.len, fun n a u e1 e2 => (S.obs n a u e1 e2).mono Mo.back rfl, fun b hb => S.hid b (List.mem_cons_of_mem _ hb), fun x hx c P e => (S.tabs x hx c P e).mono Mo.back rfl⟩
/-- .. or it is put into the store -/
theorem Mo.adopt {p : Addr} : Mo ⟨B.locs, p :: B.hid⟩ H ⟨B.locs ++ [p], B.hid⟩ H :=
  ⟨List.prefix_append _ _, fun b u e _ _ _ => e, fun b u e => e, fun b u v e => e, fun b z => by
    rcases z with z | z
    · rcases List.mem_append.mp z with z | z
      · exact .inl z
      · rw [List.mem_singleton.mp z]; exact .inr (.inl List.mem_cons_self)
    · exact .inr (.inl (List.mem_cons_of_mem _ z)), fun _ ps e => ⟨ps, e⟩⟩
theorem Sim.adopt {p : Addr} {o : Ob} (S : Sim K ⟨B.locs, p :: B.hid⟩ H s) (hh : p ∉ B.hid) (r : RpO K ⟨B.locs, p :: B.hid⟩ H p o) : Sim K ⟨B.locs ++ [p], B.hid⟩ H (s ++ [o]) := by
  have hp : p ∉ B.locs := (S.hid p List.mem_cons_self).1
  refine ⟨List.nodup_append.mpr ⟨S.nd, by simp, fun a ha b hb => ?_⟩, by simp [← S.len], fun n a u e1 e2 => ?_, fun b hb => ?_, fun x hx c P e => (S.tabs x hx c P e).mono Mo.adopt rfl⟩
  · rw [List.mem_singleton.mp hb]; exact fun z => hp (z ▸ ha)
  · have hl : B.locs.length = s.length := S.len
    have e1' : (B.locs ++ [p])[n]? = some a := e1
    by_cases hn : n < B.locs.length
    · rw [List.getElem?_append_left hn] at e1'
      rw [List.getElem?_append_left (by rw [← hl]; exact hn)] at e2
      exact (S.obs n a u e1' e2).mono Mo.adopt rfl
    · have h2 : n = B.locs.length := by
        have := (List.getElem?_eq_some_iff.mp e1').1
        simp at this; omega
      subst h2
      rw [List.getElem?_append_right (Nat.le_refl _)] at e1'
      rw [hl, List.getElem?_append_right (Nat.le_refl _)] at e2
      simp at e1' e2
      subst e1'; subst e2
      exact r.mono Mo.adopt rfl
  · obtain ⟨h1, h2⟩ := S.hid b (List.mem_cons_of_mem _ hb)
    refine ⟨fun z => ?_, h2⟩
    rcases List.mem_append.mp z with z | z
    · exact h1 z
    · rw [List.mem_singleton.mp z] at hb; exact hh hb
/-- a thing of the store is changed -/
theorem Mo.write (S : Sim K B H s) {n : Nat} {a : Addr} {o : HO} (e : B.locs[n]? = some a) : Mo B H B (upd H a o) := by
  obtain ⟨u, hu, hm⟩ := S.mem (List.mem_of_getElem? e)
  refine ⟨List.prefix_refl _, fun b v q hb _ _ => ?_, fun b xs q => ?_, fun b v w q => ?_, fun _ z => z.elim .inl fun z => .inr (.inl z), fun b ps q => ⟨ps, ?_⟩⟩
  · rw [upd_ne (fun z : b = a => hb (z ▸ List.mem_of_getElem? e))]; exact q
  · rw [upd_ne (fun z => by subst z; rw [q] at hu; cases hu; exact hm)]; exact q
  · rw [upd_ne (fun z => by subst z; rw [q] at hu; cases hu; exact hm)]; exact q
  · rw [upd_ne (fun z => by subst z; rw [q] at hu; cases hu; exact hm)]; exact q
theorem Sim.write (S : Sim K B H s) {n : Nat} {a : Addr} {o : HO} {u : Ob} (e : B.locs[n]? = some a) (r : RpO K B (upd H a o) a u) : Sim K B (upd H a o) (s.set n u) := by
  refine ⟨S.nd, by rw [List.length_set]; exact S.len, fun m b v e1 e2 => ?_, fun b hb => ?_, fun x hx c P q => ?_⟩
  · by_cases hm : n = m
    · subst hm
      rw [e] at e1; cases e1
      have hl : n < s.length := by rw [← S.len]; exact (List.getElem?_eq_some_iff.mp e).1
      rw [List.getElem?_set_self hl] at e2; cases e2
      exact r
    · rw [List.getElem?_set_ne hm] at e2
      have hb : b ≠ a := fun z => by
        subst z
        obtain ⟨h1, q1⟩ := List.getElem?_eq_some_iff.mp e
        obtain ⟨h2, q2⟩ := List.getElem?_eq_some_iff.mp e1
        exact hm ((List.getElem_inj S.nd).mp (q1.trans q2.symm))
      exact (S.obs m b v e1 e2).mono (Mo.write S e) (upd_ne hb)
  · obtain ⟨h1, xs, h2, hm⟩ := S.hid b hb
    exact ⟨h1, xs, (upd_ne fun z : b = a => h1 (z ▸ List.mem_of_getElem? e)).trans h2, hm⟩
  · obtain ⟨u, hu, hm⟩ := S.mem (List.mem_of_getElem? e)
    exact (S.tabs x hx c P q).mono (Mo.write S e) (upd_ne ((S.tabs x hx c P q).ne hu hm))
end

/-- what a stretch of running may do, and what was laid aside stands -/
structure Ext (B : Lo) (H : Hp) (B' : Lo) (H' : Hp) : Prop where
  mo : Mo B H B' H'
  keepH : ∀ b o, H b = some o → b ∈ B.hid → H' b = some o
  sub : ∀ b ∈ B.hid, b ∈ B'.hid
  newL : ∀ b ∈ B'.locs, b ∈ B.locs ∨ H b = none
theorem Ext.refl (B : Lo) (H : Hp) : Ext B H B H := ⟨Mo.refl B H, fun _ _ h _ => h, fun _ h => h, fun _ h => .inl h⟩
theorem Ext.trans {B B1 B2 : Lo} {H H1 H2 : Hp} (a : Ext B H B1 H1) (b : Ext B1 H1 B2 H2) : Ext B H B2 H2 where
  mo := a.mo.trans b.mo
  keepH := fun c o h hc => b.keepH c o (a.keepH c o h hc) (a.sub c hc)
  sub := fun c hc => b.sub c (a.sub c hc)
  newL := fun c hc => by
    rcases b.newL c hc with q | q
    · exact a.newL c q
    · cases e : H c with
      | none => exact .inr rfl
      | some o =>
        by_cases hl : c ∈ B.locs
        · exact .inl hl
        · by_cases hh : c ∈ B.hid
          · rw [a.keepH c o e hh] at q; cases q
          · obtain ⟨u, hu⟩ := a.mo.there e hl hh
            rw [hu] at q; cases q
section
variable {K : PySem.W.Frag} {B B' : Lo} {H H' : Hp} {s : Sto}
theorem Ext.was_none (x : Ext B H B' H') {b : Addr} (h : H' b = none) (hb : b ∉ B.locs) : H b = none := by
  cases e : H b with
  | none => rfl
  | some o =>
    by_cases hh : b ∈ B.hid
    · rw [x.keepH b o e hh] at h; cases h
    · obtain ⟨u, hu⟩ := x.mo.there e hb hh
      rw [hu] at h; cases h
theorem Ext.laid {p : Addr} {o : HO} (h : H p = none) : Ext B H B (upd H p o) :=
  ⟨Mo.laid h, fun b u e _ => by rw [upd_ne (ne_of_none e h)]; exact e, fun _ h => h, fun _ h => .inl h⟩
theorem Ext.aside {p : Addr} {o : HO} (h : H p = none) : Ext B H ⟨B.locs, p :: B.hid⟩ (upd H p o) :=
  ⟨Mo.aside h, fun b u e _ => by rw [upd_ne (ne_of_none e h)]; exact e, fun _ h => List.mem_cons_of_mem _ h, fun _ h => .inl h⟩
theorem Ext.write (S : Sim K B H s) {n : Nat} {a : Addr} {o : HO} (e : B.locs[n]? = some a) : Ext B H B (upd H a o) :=
  ⟨Mo.write S e, fun b u q hb => by
    rw [upd_ne (fun z : b = a => (S.hid b hb).1 (z ▸ List.mem_of_getElem? e))]; exact q, fun _ h => h, fun _ h => .inl h⟩
/-- a thing that came up on the way is changed -/
theorem Ext.rewrite (x : Ext B H B' H') {p : Addr} {o : HO} (h : H p = none) : Ext B H B' (upd H' p o) where
  mo := ⟨x.mo.pre, fun b u e h1 h2 h3 => by rw [upd_ne (ne_of_none e h)]; exact x.mo.keep b u e h1 h2 h3, fun b u e => by rw [upd_ne (ne_of_none e h)]; exact x.mo.tups b u e, fun b u v e => by rw [upd_ne (ne_of_none e h)]; exact x.mo.frzs b u v e, x.mo.new, fun b ps e => by
    obtain ⟨q, hq⟩ := x.mo.tbls b ps e
    exact ⟨q, by rw [upd_ne (ne_of_none e h)]; exact hq⟩⟩
  keepH := fun b u e hb => by rw [upd_ne (ne_of_none e h)]; exact x.keepH b u e hb
  sub := x.sub
  newL := x.newL
theorem Ext.drop {L h : List Addr} {p : Addr} (x : Ext B H ⟨L, p :: h⟩ H') (hs : ∀ b ∈ B.hid, b ∈ h) : Ext B H ⟨L, h⟩ H' :=
  ⟨⟨x.mo.pre, x.mo.keep, x.mo.tups, x.mo.frzs, fun b z => x.mo.new b (z.elim .inl fun z => .inr (List.mem_cons_of_mem _ z)), x.mo.tbls⟩, x.keepH, hs, x.newL⟩
theorem Ext.adopt {L h : List Addr} {p : Addr} (x : Ext B H ⟨L, p :: h⟩ H') (hp : H p = none) (hs : ∀ b ∈ B.hid, b ∈ h) : Ext B H ⟨L ++ [p], h⟩ H' :=
  ⟨⟨x.mo.pre.trans (List.prefix_append _ _), x.mo.keep, x.mo.tups, x.mo.frzs, fun b z => by
    rcases z with z | z
    · rcases List.mem_append.mp z with z | z
      · exact x.mo.new b (.inl z)
      · rw [List.mem_singleton.mp z]; exact .inr (.inr hp)
    · exact x.mo.new b (.inr (List.mem_cons_of_mem _ z)), x.mo.tbls⟩, x.keepH, hs, fun b z => by
    rcases List.mem_append.mp z with z | z
    · exact x.newL b z
    · rw [List.mem_singleton.mp z]; exact .inr hp⟩
end

/-! ### readings by data -/
def RpE (K : PySem.W.Frag) (B : Lo) (H : Hp) (env : En) (σ : L2.St) : Prop := env.length = σ.length ∧ ∀ (i : Nat) (d : Dv), env[i]? = some (some d) → ∃ v, σ[i]? = some (some v) ∧ Rp K B H d v
section
variable {K : PySem.W.Frag} {B B' : Lo} {H H' : Hp} {s s' : Sto} {env : En} {σ : L2.St}
theorem RpE.mono (x : Mo B H B' H') (h : RpE K B H env σ) : RpE K B' H' env σ := ⟨h.1, fun i d e => by
  obtain ⟨v, e1, r⟩ := h.2 i d e
  exact ⟨v, e1, r.mono x⟩⟩
theorem RpE.set (h : RpE K B H env σ) (i : Nat) {d : Dv} {v : V} (r : Rp K B H d v) : RpE K B H (env.set i (some d)) (σ.set i (some v)) := by
  refine ⟨by rw [List.length_set, List.length_set]; exact h.1, fun j e q => ?_⟩
  by_cases hj : i = j
  · subst hj
    have hl : i < env.length := by have := (List.getElem?_eq_some_iff.mp q).1; simpa using this
    rw [List.getElem?_set_self hl] at q
    cases q
    exact ⟨v, List.getElem?_set_self (by rw [← h.1]; exact hl), r⟩
  · rw [List.getElem?_set_ne hj] at q
    rw [List.getElem?_set_ne hj]
    exact h.2 j e q
theorem RpE.unset (h : RpE K B H env σ) (i : Nat) : RpE K B H (env.set i none) (σ.set i none) := by
  refine ⟨by rw [List.length_set, List.length_set]; exact h.1, fun j e q => ?_⟩
  by_cases hj : i = j
  · subst hj
    have hl : i < env.length := by have := (List.getElem?_eq_some_iff.mp q).1; simpa using this
    rw [List.getElem?_set_self hl] at q
    cases q
  · rw [List.getElem?_set_ne hj] at q
    rw [List.getElem?_set_ne hj]
    exact h.2 j e q
end
/-- what is handed on behind: the value, the store -/
def tOf (K : PySem.W.Frag) (f : Fn Dv) : TE := fun σ H Q => ∃ B env s d s', RpE K B H env σ ∧ Sim K B H s ∧ f env s = .ok d s' ∧
  ∀ (B' : Lo) (H' : Hp) (v : V), Ext B H B' H' → B'.hid = B.hid → Sim K B' H' s' → Rp K B' H' d v → Q v H'
/-- a new list that nobody else has -/
def tOfL (K : PySem.W.Frag) (f : Fn (List Dv)) : TE := fun σ H Q => ∃ B env s ds s', RpE K B H env σ ∧ Sim K B H s ∧ f env s = .ok ds s' ∧
  ∀ (B' : Lo) (H' : Hp) (p : Addr) (xs : List V), Ext B H ⟨B'.locs, p :: B'.hid⟩ H' → B'.hid = B.hid → Sim K ⟨B'.locs, p :: B'.hid⟩ H' s' → p ∉ B'.hid → H p = none → H' p = some (.lst xs) → Rps K ⟨B'.locs, p :: B'.hid⟩ H' ds xs → Q (.ref p) H'
def tOfA (K : PySem.W.Frag) (f : Fn (List Dv)) : TA := fun σ H Q => ∃ B env s ds s', RpE K B H env σ ∧ Sim K B H s ∧ f env s = .ok ds s' ∧
  ∀ (B' : Lo) (H' : Hp) (vs : List V), Ext B H B' H' → B'.hid = B.hid → Sim K B' H' s' → Rps K B' H' ds vs → Q vs H'
def tOfT (K : PySem.W.Frag) (f : Fn Bool) : TT := fun σ H Q => ∃ B env s b s', RpE K B H env σ ∧ Sim K B H s ∧ f env s = .ok b s' ∧
  ∀ (B' : Lo) (H' : Hp), Ext B H B' H' → B'.hid = B.hid → Sim K B' H' s' → Q b H'
abbrev ZE (X : Cx) (e : Expr) (f : Fn Dv) : Prop := PE X e (tOf X.K f)
abbrev ZL (X : Cx) (e : Expr) (f : Fn (List Dv)) : Prop := PE X e (tOfL X.K f)
abbrev ZA (X : Cx) (es : List Expr) (f : Fn (List Dv)) : Prop := PA X es (tOfA X.K f)
abbrev ZT (X : Cx) (e : Expr) (f : Fn Bool) : Prop := PT X e (tOfT X.K f)
theorem pe_mono {X : Cx} {e : Expr} {t t' : TE} (h : PE X e t) (hh : ∀ σ H Q, t' σ H Q → t σ H Q) : PE X e t' := ⟨fun pins s σ H Q I q => h.run pins s σ H Q I (hh _ _ _ q)⟩
theorem pe_alt {X : Cx} {e : Expr} {t t' : TE} (h : PE X e t) (h' : PE X e t') : PE X e (fun σ H Q => t σ H Q ∨ t' σ H Q) := ⟨fun pins s σ H Q I q => q.elim (h.run pins s σ H Q I) (h'.run pins s σ H Q I)⟩
theorem pt_mono {X : Cx} {e : Expr} {t t' : TT} (h : PT X e t) (hh : ∀ σ H Q, t' σ H Q → t σ H Q) : PT X e t' := ⟨fun pins s σ H Q I q => h.run pins s σ H Q I (hh _ _ _ q)⟩
theorem pa_mono {X : Cx} {e : List Expr} {t t' : TA} (h : PA X e t) (hh : ∀ σ H Q, t' σ H Q → t σ H Q) : PA X e t' := ⟨fun pos pins s σ H Q I q => h.run pos pins s σ H Q I (hh _ _ _ q)⟩
theorem ps_mono {X : Cx} {e : Stmt} {t t' : TS} (h : PS X e t) (hh : ∀ D σ H, t' D σ H → t D σ H) : PS X e t' := ⟨fun pins s σ H Q I q => h.run pins s σ H Q I (hh _ _ _ q)⟩
theorem ps_alt {X : Cx} {e : Stmt} {t t' : TS} (h : PS X e t) (h' : PS X e t') : PS X e (fun D σ H => t D σ H ∨ t' D σ H) := ⟨fun pins s σ H Q I q => q.elim (h.run pins s σ H Q I) (h'.run pins s σ H Q I)⟩
theorem pg_mono {X : Cx} {e : Expr} {t t' : TG} (h : PG X e t) (hh : ∀ v σ H Q, t' v σ H Q → t v σ H Q) : PG X e t' := ⟨fun pins s σ H v u Q I r q => h.run pins s σ H v u Q I r (hh _ _ _ _ q)⟩
end Z

namespace Z
open PySem PySem.Spec PyProof.Rows L2

/-! ### the context by data -/
/-- what stands behind the top -/
structure Gz where
  prog : Program
  w : World
  K : PySem.W.Frag
  mg : Str → Option Value
  base : Heap
structure Cz (G : Gz) (bs : List Str) (k : Nat) (X : Cx) (N : List Str) (nm : List (Str × NameKind)) (ow : Str → Bool) : Prop where
  hN : X.N = N
  nd : N.Nodup
  kd : X.env.scope.kind = .function
  nm : X.env.scope.names = nm
  ow : X.fn = ow
  calm : X.calm = true
  rm : Room k X.A
  gd : X.A.guards = some []
  bl : ∀ x ∈ bs, X.mg x = none
  gp : X.prog = G.prog
  gw : X.w = G.w
  gK : X.K = G.K
  gm : X.mg = G.mg
  gb : X.base = G.base
  po : PassesOwn (model X.prog X.w) X.A X.env X.xe
/-- the name x stands in place i, to be read -/
def vOk (N : List Str) (nm : List (Str × NameKind)) (i : Nat) (x : Str) : Bool :=
  decide (N[i]? = some x) && (match nm.lookup x with | some .local => true | some .cell => true | some .free => true | _ => false)
/-- .. to be stored -/
def sOk (N : List Str) (nm : List (Str × NameKind)) (ow : Str → Bool) (i : Nat) (x : Str) : Bool :=
  decide (N[i]? = some x) && (match nm.lookup x with | some .local => true | some .cell => ow x | _ => false)
/-- a name of the module or a builtin -/
def gOk (nm : List (Str × NameKind)) (x : Str) : Bool := match nm.lookup x with | some .globalImplicit => true | _ => false
/-- a builtin -/
def bOk (bs : List Str) (nm : List (Str × NameKind)) (x : Str) : Bool := gOk nm x && bs.contains x
section
variable {G : Gz} {bs : List Str} {k : Nat} {X : Cx} {N : List Str} {nm : List (Str × NameKind)} {ow : Str → Bool} {x : Str} {i : Nat} {pos : Pos}
theorem Cz.vis (c : Cz G bs k X N nm ow) (h : vOk N nm i x = true) : X.N[i]? = some x ∧ Vis X.env.scope x := by
  unfold vOk at h
  rw [Bool.and_eq_true] at h
  obtain ⟨h1, h2⟩ := h
  refine ⟨by rw [c.hN]; exact of_decide_eq_true h1, ?_⟩
  unfold Vis
  rw [c.nm]
  split at h2
  · rename_i e; exact .inl e
  · rename_i e; exact .inr (.inl e)
  · rename_i e; exact .inr (.inr e)
  · cases h2
theorem Cz.loc (c : Cz G bs k X N nm ow) (h : sOk N nm ow i x = true) : X.N[i]? = some x ∧ Loc X.env.scope x ∧ (X.fn x = true ∨ X.env.scope.names.lookup x = some .local) := by
  unfold sOk at h
  rw [Bool.and_eq_true] at h
  obtain ⟨h1, h2⟩ := h
  refine ⟨by rw [c.hN]; exact of_decide_eq_true h1, ?_⟩
  unfold L2.Loc
  rw [c.nm, c.ow]
  split at h2
  · rename_i e; exact ⟨.inl e, .inr e⟩
  · rename_i e; exact ⟨.inr e, .inl h2⟩
  · cases h2
theorem Cz.gl (c : Cz G bs k X N nm ow) (h : gOk nm x = true) : Gl X x := by
  unfold gOk at h
  unfold Gl
  show X.env.scope.names.lookup x = _
  rw [c.nm]
  split at h
  · assumption
  · cases h
theorem Cz.blt (c : Cz G bs k X N nm ow) (h : bOk bs nm x = true) : Gl X x ∧ X.mg x = none := by
  unfold bOk at h
  rw [Bool.and_eq_true] at h
  exact ⟨c.gl h.1, c.bl x (List.contains_iff_mem.mp h.2)⟩
theorem Cz.un (c : Cz G bs k X N nm ow) : X.A.units + 64 < cLine := c.rm.units
end

/-! ### names, constants -/
def fVar (i : Nat) : Fn Dv := fun env s => match env[i]? with | some (some d) => .ok d s | _ => .bad
theorem fVar_ok {i : Nat} {env : En} {s s' : Sto} {d : Dv} (h : fVar i env s = .ok d s') : env[i]? = some (some d) ∧ s = s' := by
  unfold fVar at h
  split at h
  · rename_i e
    cases h
    exact ⟨e, rfl⟩
  · cases h
/-- a guard -/
def Rs.iff {α : Type} (c : Bool) (r : Rs α) : Rs α := if c = true then r else .bad
theorem Rs.iff_ok {α : Type} {c : Bool} {r : Rs α} {a : α} {s : Sto} (h : Rs.iff c r = .ok a s) : c = true ∧ r = .ok a s := by
  unfold Rs.iff at h
  split at h
  · exact ⟨by assumption, h⟩
  · cases h
def fC (d : Dv) : Fn Dv := fun _ s => .ok d s
section
variable {G : Gz} {bs : List Str} {k : Nat} {X : Cx} {N : List Str} {nm : List (Str × NameKind)} {ow : Str → Bool} {x : Str} {i : Nat} {pos : Pos} {a b e : Expr} {es : List Expr} {fa fb fc : Fn Dv} {fs : Fn (List Dv)}
theorem z_var (c : Cz G bs k X N nm ow) (h : vOk N nm i x = true) (hd : (x == ("__debug__" : Str)) = false := by decide +kernel) (hcd : (x == ("__classdict__" : Str)) = false := by decide +kernel) : ZE X (.Name x pos) (fVar i) := by
  obtain ⟨h1, h2⟩ := c.vis h
  refine pe_mono (pe_var h1 h2 hd hcd) fun σ H Q q => ?_
  obtain ⟨B, env, s, d, s', hE, hS, hf, hQ⟩ := q
  obtain ⟨e, rfl⟩ := fVar_ok hf
  obtain ⟨v, ev, r⟩ := hE.2 i d e
  exact ⟨v, ev, hQ B H v (Ext.refl _ _) rfl hS r⟩
theorem z_const {v : V} {d : Dv} (h : PE X e (tC v)) (r : ∀ B H, Rp X.K B H d v) : ZE X e (fC d) := by
  refine pe_mono h fun σ H Q q => ?_
  obtain ⟨B, env, s, d', s', hE, hS, hf, hQ⟩ := q
  cases hf
  exact hQ B H v (Ext.refl _ _) rfl hS (r _ _)
theorem z_int {i : Int} {j} : ZE X (.Constant (.int i) j pos) (fC (.int i)) := z_const pe_int fun _ _ => .int i
theorem z_str {i : Str} {j} : ZE X (.Constant (.str i) j pos) (fC (.str i)) := z_const pe_str fun _ _ => .str i
theorem z_bl {i : Bool} {j} : ZE X (.Constant (.bool i) j pos) (fC (.bl i)) := z_const pe_bl fun _ _ => .bl i
/-! ### displays -/
def fNil : Fn (List Dv) := fun _ s => .ok [] s
def fCons (f : Fn Dv) (g : Fn (List Dv)) : Fn (List Dv) := fun env s => (f env s).bind fun d s1 => (g env s1).bind fun ds s2 => .ok (d :: ds) s2
theorem z_nil : ZA X [] fNil := by
  refine pa_mono pa_nil fun σ H Q q => ?_
  obtain ⟨B, env, s, d', s', hE, hS, hf, hQ⟩ := q
  cases hf
  exact hQ B H [] (Ext.refl _ _) rfl hS .nil
theorem z_cons (ha : ZE X e fa) (hr : ZA X es fs) (hs : starEach (e :: es) X.env = (false, eval e X.env) :: starEach es X.env := by rfl) : ZA X (e :: es) (fCons fa fs) := by
  refine pa_mono (pa_cons ha hr hs) fun σ H Q q => ?_
  obtain ⟨B, env, s, d', s', hE, hS, hf, hQ⟩ := q
  obtain ⟨d, s1, h1, hf⟩ := Rs.bind_ok hf
  obtain ⟨ds, s2, h2, hf⟩ := Rs.bind_ok hf
  cases hf
  refine ⟨B, env, s, d, s1, hE, hS, h1, fun B1 H1 v x1 e1 S1 r1 => ?_⟩
  refine ⟨B1, env, s1, _, _, hE.mono x1.mo, S1, h2, fun B2 H2 vs x2 e2 S2 r2 => ?_⟩
  exact hQ B2 H2 _ (x1.trans x2) (e2.trans e1) S2 (.cons (r1.mono x2.mo) r2)

/-- a new tuple with a plain head -/
theorem tupK_new {pins : List (Addr × Obj)} {σ : L2.St} {H : Hp} {s : Shared} {xs : List V} {us : List Value} {t' : Nat} (I : Inv X pins σ H s) (hz : xs.length ≤ sizeLine) (r : Vals xs us) {Q : VK}
    (q : ∀ p o, H p = none → o.dict = none → Q (.ref p) (upd H p (.frz o (.tup xs)))) : EP X pins σ Q (.ref s.heap.objs.size) { s with heap := s.heap.push { cls := .type "tuple", data := .seq us.toArray }, toks := t' } := by
  have hf : H s.heap.objs.size = none := I.hok.fresh (Nat.le_refl _)
  refine ⟨.ref s.heap.objs.size, upd H s.heap.objs.size (.frz { cls := .type "tuple", data := .seq us.toArray } (.tup xs)), I.laid (t' := t') (fun b u e => Heap.get?_push_of_some _ e) (Nat.le_refl _) ?_, rfl, q _ _ hf rfl⟩
  exact ⟨Heap.get?_push_size _ rfl, hz, us, r, ⟨_, Heap.get?_push_size _ rfl, rfl, _, rfl⟩⟩
def tTupK (t : TA) : TE := fun σ H Q => t σ H fun xs H1 => xs.length ≤ sizeLine ∧ ∀ p o, H1 p = none → o.dict = none → Q (.ref p) (upd H1 p (.frz o (.tup xs)))
theorem pe_tupK {x1 : Nat} {t : TA} (h : PA X es t) : PE X (.Tuple es x1 pos) (tTupK t) := by
  refine ⟨fun pins s σ H Q I hq => ?_⟩
  refine wpAny_Tuple_spliced (thn (h.run pos pins s σ H _ I hq) fun us s1 ⟨xs, H1, I1, r, z, q⟩ => ⟨by rw [← r.length]; exact z, ?_⟩)
  exact tupK_new I1 z r q
def fTup (f : Fn (List Dv)) : Fn Dv := fun env s => (f env s).bind fun ds s1 => Rs.iff (decide (ds.length ≤ 16777216)) (.ok (.tup ds) s1)
/-- what a new tuple brings -/
theorem new_tup {K : PySem.W.Frag} {B : Lo} {H : Hp} {s : Sto} {ds : List Dv} {xs : List V} {Q : VK} (S : Sim K B H s) (r : Rps K B H ds xs)
    (hQ : ∀ (B' : Lo) (H' : Hp) (v : V), Ext B H B' H' → B'.hid = B.hid → Sim K B' H' s → Rp K B' H' (.tup ds) v → Q v H') {p : Addr} {o : Obj} (hp : H p = none) (hd : o.dict = none) : Q (.ref p) (upd H p (.frz o (.tup xs))) :=
  hQ B _ _ (Ext.laid hp) rfl (S.laid hp) (.tup (.inl ⟨o, upd_same, hd⟩) (r.mono (Ext.laid hp).mo))
theorem len_line {n : Nat} (h : n ≤ 16777216) : n ≤ sizeLine := by rw [sizeLine_eq]; exact h
theorem z_tup {x1 : Nat} (h : ZA X es fs) : ZE X (.Tuple es x1 pos) (fTup fs) := by
  refine pe_mono (pe_tupK h) fun σ H Q q => ?_
  obtain ⟨B, env, s, d', s', hE, hS, hf, hQ⟩ := q
  obtain ⟨ds, s1, h1, hf⟩ := Rs.bind_ok hf
  obtain ⟨hz, hf⟩ := Rs.iff_ok hf
  have hz := of_decide_eq_true hz
  cases hf
  refine ⟨B, env, s, _, _, hE, hS, h1, fun B1 H1 xs x1 e1 S1 r1 => ⟨len_line (r1.length ▸ hz), fun p o hp hd => ?_⟩⟩
  exact new_tup S1 r1 (fun B' H' v x e S r => hQ B' H' v (x1.trans x) (e.trans e1) S r) hp hd
theorem new_none {K : PySem.W.Frag} {B B1 B' : Lo} {H H1 H' : Hp} {s : Sto} {p : Addr} (x1 : Ext B H B1 H1) (x : Ext B1 H1 ⟨B'.locs, p :: B'.hid⟩ H') (S : Sim K ⟨B'.locs, p :: B'.hid⟩ H' s) (hn : H1 p = none) : H p = none :=
  x1.was_none hn fun z => (S.hid p List.mem_cons_self).1 (x.mo.pre.subset (x1.mo.pre.subset z))
def fLst (f : Fn (List Dv)) : Fn (List Dv) := fun env s => (f env s).bind fun ds s1 => Rs.iff (decide (ds.length ≤ 16777216)) (.ok ds s1)
/-- what a new list brings -/
theorem new_lst {K : PySem.W.Frag} {B : Lo} {H : Hp} {s : Sto} {ds : List Dv} {xs : List V} {Q : VK} (S : Sim K B H s) (r : Rps K B H ds xs) {p : Addr} (hp : H p = none)
    (hQ : ∀ (B' : Lo) (H' : Hp) (p : Addr) (xs : List V), Ext B H ⟨B'.locs, p :: B'.hid⟩ H' → B'.hid = B.hid → Sim K ⟨B'.locs, p :: B'.hid⟩ H' s → p ∉ B'.hid → H p = none → H' p = some (.lst xs) → Rps K ⟨B'.locs, p :: B'.hid⟩ H' ds xs → Q (.ref p) H') :
    Q (.ref p) (upd H p (.lst xs)) :=
  hQ B _ p xs (Ext.aside hp) rfl (S.aside hp) (S.freeH hp) hp upd_same (r.mono (Ext.aside hp).mo)
theorem z_lst (h : ZA X es fs) : ZL X (.List es pos) (fLst fs) := by
  refine pe_mono (pe_lst h) fun σ H Q q => ?_
  obtain ⟨B, env, s, d', s', hE, hS, hf, hQ⟩ := q
  obtain ⟨ds, s1, h1, hf⟩ := Rs.bind_ok hf
  obtain ⟨hz, hf⟩ := Rs.iff_ok hf
  have hz := of_decide_eq_true hz
  cases hf
  refine ⟨B, env, s, _, _, hE, hS, h1, fun B1 H1 xs x1 e1 S1 r1 => ⟨len_line (r1.length ▸ hz), fun p hp => ?_⟩⟩
  exact new_lst S1 r1 hp fun B' H' p xs x e S hh hn hl r => hQ B' H' p xs (x1.trans x) (e.trans e1) S hh (new_none x1 x S hn) hl r
/-- a new list as a value that nobody changes -/
def fVal (f : Fn (List Dv)) : Fn Dv := fun env s => (f env s).bind fun ds s1 => .ok (.ls ds) s1
theorem z_val {f : Fn (List Dv)} (h : ZL X e f) : ZE X e (fVal f) := by
  refine pe_mono h fun σ H Q q => ?_
  obtain ⟨B, env, s, d', s', hE, hS, hf, hQ⟩ := q
  obtain ⟨ds, s1, h1, hf⟩ := Rs.bind_ok hf
  cases hf
  refine ⟨B, env, s, _, _, hE, hS, h1, fun B1 H1 p xs x1 e1 S1 hh hn hl r1 => ?_⟩
  have S2 := S1.back
  refine hQ ⟨B1.locs, B1.hid⟩ H1 _ (x1.drop fun b hb => by rw [e1]; exact hb) e1 S2 (.ls (.inl ⟨hl, (S1.hid p List.mem_cons_self).1, hh⟩) (r1.mono Mo.back))
/-- .. as a thing of the store -/
def fNew (f : Fn (List Dv)) : Fn Dv := fun env s => (f env s).bind fun ds s1 => .ok (.loc s1.length) (s1 ++ [.lst ds])
theorem z_new {f : Fn (List Dv)} (h : ZL X e f) : ZE X e (fNew f) := by
  refine pe_mono h fun σ H Q q => ?_
  obtain ⟨B, env, s, d', s', hE, hS, hf, hQ⟩ := q
  obtain ⟨ds, s1, h1, hf⟩ := Rs.bind_ok hf
  cases hf
  refine ⟨B, env, s, _, _, hE, hS, h1, fun B1 H1 p xs x1 e1 S1 hh hn hl r1 => ?_⟩
  refine hQ ⟨B1.locs ++ [p], B1.hid⟩ H1 _ (x1.adopt hn fun b hb => by rw [e1]; exact hb) e1 (S1.adopt hh ⟨xs, hl, r1⟩) (.loc ?_)
  rw [← S1.len]
  show (B1.locs ++ [p])[B1.locs.length]? = some p
  rw [List.getElem?_append_right (Nat.le_refl _)]
  simp
end
end Z

namespace Z
open PySem PySem.Spec PyProof.Rows L2

/-! ### operators by data -/
def PostZ (K : PySem.W.Frag) (B : Lo) (H : Hp) (s' : Sto) (d : Dv) (Q : VK) : Prop := ∀ (B' : Lo) (H' : Hp) (v : V), Ext B H B' H' → B'.hid = B.hid → Sim K B' H' s' → Rp K B' H' d v → Q v H'
theorem PostZ.same {K : PySem.W.Frag} {B : Lo} {H : Hp} {s : Sto} {d : Dv} {Q : VK} (h : PostZ K B H s d Q) (S : Sim K B H s) {v : V} (r : Rp K B H d v) : Q v H := h B H v (Ext.refl _ _) rfl S r
def OpZ (K : PySem.W.Frag) (r : R2) (g : Dv → Dv → Sto → Rs Dv) : Prop :=
  ∀ (B : Lo) (H : Hp) (s : Sto) (x y : Dv) (v w : V) (d : Dv) (s' : Sto) (Q : VK), Sim K B H s → Rp K B H x v → Rp K B H y w → g x y s = .ok d s' → PostZ K B H s' d Q → r v w H Q
def fBin (g : Dv → Dv → Sto → Rs Dv) (f1 f2 : Fn Dv) : Fn Dv := fun env s => (f1 env s).bind fun x s1 => (f2 env s1).bind fun y s2 => g x y s2
section
variable {X : Cx} {a b c e : Expr} {es : List Expr} {fa fb fc : Fn Dv} {fs : Fn (List Dv)} {pos : Pos} {g g' : Dv → Dv → Sto → Rs Dv} {r r' : R2}
theorem OpR.or {f : Value → Value → Sem Value} {r r' : R2} (h : OpR X f r) (h' : OpR X f r') : OpR X f (fun x y H Q => r x y H Q ∨ r' x y H Q) := by
  intro pins s σ H x y v u Q I rx ry q
  rcases q with q | q
  · exact h pins s σ H x y v u Q I rx ry q
  · exact h' pins s σ H x y v u Q I rx ry q
theorem bin_to (hg : OpZ X.K r g) : ∀ σ H Q, tOf X.K (fBin g fa fb) σ H Q → tOp r (tOf X.K fa) (tOf X.K fb) σ H Q := fun σ H Q q => by
  obtain ⟨B, env, s, d, s', hE, hS, hf, hQ⟩ := q
  obtain ⟨x, s1, h1, hf⟩ := Rs.bind_ok hf
  obtain ⟨y, s2, h2, hf⟩ := Rs.bind_ok hf
  refine ⟨B, env, s, _, _, hE, hS, h1, fun B1 H1 v x1 e1 S1 r1 => ?_⟩
  refine ⟨B1, env, s1, _, _, hE.mono x1.mo, S1, h2, fun B2 H2 w x2 e2 S2 r2 => ?_⟩
  exact hg B2 H2 s2 x y v w d s' Q S2 (r1.mono x2.mo) r2 hf fun B3 H3 u x3 e3 S3 r3 => hQ B3 H3 u (x1.trans (x2.trans x3)) (e3.trans (e2.trans e1)) S3 r3
theorem z_op {op : Operator} (ho : OpR X (binaryOp op) r) (hg : OpZ X.K r g) (ha : ZE X a fa) (hb : ZE X b fb) : ZE X (.BinOp a op b pos) (fBin g fa fb) := pe_mono (pe_op ho ha hb) (bin_to hg)
theorem z_cmp {op : CmpOp} (ho : OpR X (compareOp op) r) (hg : OpZ X.K r g) (ha : ZE X a fa) (hb : ZE X b fb) (hm : behindInMarks op b = false) : ZE X (.Compare a [op] [b] pos) (fBin g fa fb) := pe_mono (pe_cmpR ho ha hb hm) (bin_to hg)
/-- a truth's truth -/
def fTest (f : Fn Dv) : Fn Bool := fun env s => (f env s).bind fun d s1 => match d with | .bl b => .ok b s1 | _ => .bad
theorem fTest_ok {f : Fn Dv} {env : En} {s s' : Sto} {b : Bool} (h : fTest f env s = .ok b s') : f env s = .ok (.bl b) s' := by
  obtain ⟨d, s1, h1, h⟩ := Rs.bind_ok h
  cases d with
  | bl b' => cases h; exact h1
  | _ => cases h
theorem test_to {t : TE} {f : Fn Dv} (ht : ∀ σ H Q, tOf X.K f σ H Q → t σ H Q) : ∀ σ H Q, tOfT X.K (fTest f) σ H Q → tTest t σ H Q := fun σ H Q q => by
  obtain ⟨B, env, s, b, s', hE, hS, hf, hQ⟩ := q
  refine ht _ _ _ ⟨B, env, s, _, _, hE, hS, fTest_ok hf, fun B1 H1 v x1 e1 S1 r1 => ?_⟩
  cases r1
  exact ⟨b, rfl, hQ B1 H1 x1 e1 S1⟩
theorem z_cmpT {op : CmpOp} (ho : OpR X (compareOp op) r) (hg : OpZ X.K r g) (ha : ZE X a fa) (hb : ZE X b fb) (hm : behindInMarks op b = false) : ZT X (.Compare a [op] [b] pos) (fTest (fBin g fa fb)) :=
  pt_mono (pt_cmpR ho ha hb hm) (test_to (bin_to hg))
theorem z_valT (ha : ZE X a fa) (he : ∀ whole, isTrue a X.env whole = (do let v ← whole; standAt a.pos; holding [v] (truthy v)) := by intro _; rfl) : ZT X a (fTest fa) :=
  pt_mono (pt_val ha he) (test_to fun _ _ _ h => h)
/-- a op b op' c -/
def fChain (g g' : Dv → Dv → Sto → Rs Dv) (f1 f2 f3 : Fn Dv) : Fn Dv := fun env s => (f1 env s).bind fun x s1 => (f2 env s1).bind fun y s2 => (g x y s2).bind fun t s3 => match t with
  | .bl true => (f3 env s3).bind fun z s4 => g' y z s4
  | .bl false => .ok (.bl false) s3
  | _ => .bad
/-! ### and, or, not, if else -/
def fAndT (f g : Fn Bool) : Fn Bool := fun env s => (f env s).bind fun b s1 => if b = true then g env s1 else .ok false s1
def fOrT (f g : Fn Bool) : Fn Bool := fun env s => (f env s).bind fun b s1 => if b = true then .ok true s1 else g env s1
def fNotT (f : Fn Bool) : Fn Bool := fun env s => (f env s).bind fun b s1 => .ok (!b) s1
abbrev ZW (X : Cx) (e : Expr) (f : Fn Bool) : Prop := PW X e (tOfT X.K f)
theorem pw_mono {e : Expr} {t t' : TT} (h : PW X e t) (hh : ∀ σ H Q, t' σ H Q → t σ H Q) : PW X e t' := ⟨fun wh pins s σ H Q I q => h.run wh pins s σ H Q I (hh _ _ _ q)⟩
variable {ta tb : Fn Bool} {rest : List Expr}
theorem w_and1 (ha : ZT X a ta) : ZW X (.BoolOp .And [a] pos) ta := pw_and1 ha
theorem w_or1 (ha : ZT X a ta) : ZW X (.BoolOp .Or [a] pos) ta := pw_or1 ha
theorem w_and (ha : ZT X a ta) (hb : ZW X (.BoolOp .And (b :: rest) pos) tb) : ZW X (.BoolOp .And (a :: b :: rest) pos) (fAndT ta tb) := by
  refine pw_mono (pw_and ha hb) fun σ H Q q => ?_
  obtain ⟨B, env, s, d, s', hE, hS, hf, hQ⟩ := q
  obtain ⟨x, s1, h1, hf⟩ := Rs.bind_ok hf
  refine ⟨B, env, s, _, _, hE, hS, h1, fun B1 H1 x1 e1 S1 => ?_⟩
  split at hf
  · rename_i hx
    rw [if_pos hx]
    exact ⟨B1, env, s1, _, _, hE.mono x1.mo, S1, hf, fun B2 H2 x2 e2 S2 => hQ B2 H2 (x1.trans x2) (e2.trans e1) S2⟩
  · rename_i hx
    rw [if_neg hx]
    cases hf
    exact hQ B1 H1 x1 e1 S1
theorem w_or (ha : ZT X a ta) (hb : ZW X (.BoolOp .Or (b :: rest) pos) tb) : ZW X (.BoolOp .Or (a :: b :: rest) pos) (fOrT ta tb) := by
  refine pw_mono (pw_or ha hb) fun σ H Q q => ?_
  obtain ⟨B, env, s, d, s', hE, hS, hf, hQ⟩ := q
  obtain ⟨x, s1, h1, hf⟩ := Rs.bind_ok hf
  refine ⟨B, env, s, _, _, hE, hS, h1, fun B1 H1 x1 e1 S1 => ?_⟩
  split at hf
  · rename_i hx
    rw [if_pos hx]
    cases hf
    exact hQ B1 H1 x1 e1 S1
  · rename_i hx
    rw [if_neg hx]
    exact ⟨B1, env, s1, _, _, hE.mono x1.mo, S1, hf, fun B2 H2 x2 e2 S2 => hQ B2 H2 (x1.trans x2) (e2.trans e1) S2⟩
theorem z_wT (h : ZW X e ta) : ZT X e ta := h.pt
theorem z_notT (ha : ZT X a ta) : ZT X (.UnaryOp .Not a pos) (fNotT ta) := by
  refine pt_mono (pt_not ha) fun σ H Q q => ?_
  obtain ⟨B, env, s, d, s', hE, hS, hf, hQ⟩ := q
  obtain ⟨x, s1, h1, hf⟩ := Rs.bind_ok hf
  refine ⟨B, env, s, _, _, hE, hS, h1, fun B1 H1 x1 e1 S1 => ?_⟩
  cases hf
  exact hQ B1 H1 x1 e1 S1
def fAnd (f g : Fn Dv) : Fn Dv := fun env s => (fTest f env s).bind fun b s1 => if b = true then g env s1 else .ok (.bl false) s1
def fOr (f g : Fn Dv) : Fn Dv := fun env s => (fTest f env s).bind fun b s1 => if b = true then .ok (.bl true) s1 else g env s1
def fNot (f : Fn Dv) : Fn Dv := fun env s => (fTest f env s).bind fun b s1 => .ok (.bl (!b)) s1
theorem z_one {op} (h : ZE X a fa) : ZE X (.BoolOp op [a] pos) fa := pe_one h
theorem z_and (ha : ZE X a fa) (hb : ZE X (.BoolOp .And (b :: rest) pos) fb) : ZE X (.BoolOp .And (a :: b :: rest) pos) (fAnd fa fb) := by
  refine pe_mono (pe_and ha hb) fun σ H Q q => ?_
  obtain ⟨B, env, s, d, s', hE, hS, hf, hQ⟩ := q
  obtain ⟨x, s1, h1, hf⟩ := Rs.bind_ok hf
  refine ⟨B, env, s, _, _, hE, hS, fTest_ok h1, fun B1 H1 v x1 e1 S1 r1 => ?_⟩
  cases r1
  refine ⟨x, rfl, ?_⟩
  split at hf
  · rename_i hx
    rw [if_pos hx]
    exact ⟨B1, env, s1, _, _, hE.mono x1.mo, S1, hf, fun B2 H2 v x2 e2 S2 r2 => hQ B2 H2 v (x1.trans x2) (e2.trans e1) S2 r2⟩
  · rename_i hx
    rw [if_neg hx]
    cases hf
    exact hQ B1 H1 _ x1 e1 S1 (.bl false)
def fIf (t : Fn Bool) (f g : Fn Dv) : Fn Dv := fun env s => (t env s).bind fun b s1 => if b = true then f env s1 else g env s1
theorem z_if (hc : ZT X c ta) (ha : ZE X a fa) (hb : ZE X b fb) : ZE X (.IfExp c a b pos) (fIf ta fa fb) := by
  refine pe_mono (pe_ifExp hc ha hb) fun σ H Q q => ?_
  obtain ⟨B, env, s, d, s', hE, hS, hf, hQ⟩ := q
  obtain ⟨x, s1, h1, hf⟩ := Rs.bind_ok hf
  refine ⟨B, env, s, _, _, hE, hS, h1, fun B1 H1 x1 e1 S1 => ?_⟩
  split at hf
  · rename_i hx
    rw [if_pos hx]
    exact ⟨B1, env, s1, _, _, hE.mono x1.mo, S1, hf, fun B2 H2 v x2 e2 S2 r2 => hQ B2 H2 v (x1.trans x2) (e2.trans e1) S2 r2⟩
  · rename_i hx
    rw [if_neg hx]
    exact ⟨B1, env, s1, _, _, hE.mono x1.mo, S1, hf, fun B2 H2 v x2 e2 S2 r2 => hQ B2 H2 v (x1.trans x2) (e2.trans e1) S2 r2⟩
/-- one thing in, by its rule -/
def UnZ (K : PySem.W.Frag) (r : V → Hp → VK → Prop) (g : Dv → Sto → Rs Dv) : Prop :=
  ∀ (B : Lo) (H : Hp) (s : Sto) (x : Dv) (v : V) (d : Dv) (s' : Sto) (Q : VK), Sim K B H s → Rp K B H x v → g x s = .ok d s' → PostZ K B H s' d Q → r v H Q
def fUn (g : Dv → Sto → Rs Dv) (f : Fn Dv) : Fn Dv := fun env s => (f env s).bind fun x s1 => g x s1
end

/-! ### the operators themselves -/
def gI (g : Int → Int → Dv) : Dv → Dv → Sto → Rs Dv := fun x y s => match x, y with | .int i, .int j => .ok (g i j) s | _, _ => .bad
def gIc (c : Int → Int → Bool) (g : Int → Int → Dv) : Dv → Dv → Sto → Rs Dv := fun x y s => match x, y with | .int i, .int j => Rs.iff (c i j) (.ok (g i j) s) | _, _ => .bad
theorem gI_ok {g : Int → Int → Dv} {x y d : Dv} {s s' : Sto} (h : gI g x y s = .ok d s') : ∃ i j, x = .int i ∧ y = .int j ∧ d = g i j ∧ s' = s := by
  unfold gI at h
  split at h
  · cases h; exact ⟨_, _, rfl, rfl, rfl, rfl⟩
  · cases h
theorem gIc_ok {c : Int → Int → Bool} {g : Int → Int → Dv} {x y d : Dv} {s s' : Sto} (h : gIc c g x y s = .ok d s') : ∃ i j, x = .int i ∧ y = .int j ∧ c i j = true ∧ d = g i j ∧ s' = s := by
  unfold gIc at h
  split at h
  · obtain ⟨h1, h2⟩ := Rs.iff_ok h
    cases h2; exact ⟨_, _, rfl, rfl, h1, rfl, rfl⟩
  · cases h
section
variable {K : PySem.W.Frag}
theorem oz_int {f : Int → Int → Int} : OpZ K (rI0 fun i j => .int (f i j)) (gI fun i j => .int (f i j)) := by
  intro B H s x y v w d s' Q S rx ry h q
  obtain ⟨i, j, rfl, rfl, rfl, rfl⟩ := gI_ok h
  cases rx; cases ry
  exact ⟨i, j, rfl, rfl, q.same S (.int _)⟩
theorem oz_intC {C : Int → Int → Prop} {c : Int → Int → Bool} {f : Int → Int → Int} (hc : ∀ i j, c i j = true → C i j) : OpZ K (rI C fun i j => .int (f i j)) (gIc c fun i j => .int (f i j)) := by
  intro B H s x y v w d s' Q S rx ry h q
  obtain ⟨i, j, rfl, rfl, hcc, rfl, rfl⟩ := gIc_ok h
  cases rx; cases ry
  exact ⟨i, j, rfl, rfl, hc _ _ hcc, q.same S (.int _)⟩
def cDiv (_ j : Int) : Bool := decide (0 < j) && decide (j < 2 ^ 64)
def cMod (_ j : Int) : Bool := decide (0 < j)
def cPow (i j : Int) : Bool := decide (0 ≤ j) && decide (j ≤ 1000000) && decide (-(2 ^ 64) < i) && decide (i < 2 ^ 64)
def cMul (i j : Int) : Bool := (decide (-(2 ^ 64) < i) && decide (i < 2 ^ 64)) || (decide (-(2 ^ 64) < j) && decide (j < 2 ^ 64))
theorem cDiv_ok (i j : Int) (h : cDiv i j = true) : CDivW i j := by
  unfold cDiv at h
  simp only [Bool.and_eq_true, decide_eq_true_eq] at h
  exact wide_div (b := 64) h.1 (by omega) (by decide) (by decide)
theorem cMod_ok (i j : Int) (h : cMod i j = true) : 0 < j := of_decide_eq_true h
theorem cPow_ok (i j : Int) (h : cPow i j = true) : CPow i j := by
  unfold cPow at h
  simp only [Bool.and_eq_true, decide_eq_true_eq] at h
  exact ⟨h.1.1.1, h.1.1.2, by omega⟩
theorem cMul_ok (i j : Int) (h : cMul i j = true) : CMul i j := by
  unfold cMul at h
  simp only [Bool.or_eq_true, Bool.and_eq_true, decide_eq_true_eq] at h
  exact h
/-- + of ints, texts, tuples -/
def gAdd (x y : Dv) (s : Sto) : Rs Dv := match x, y with
  | .int i, .int j => .ok (.int (i + j)) s
  | .str a, .str b => Rs.iff (decide (a.length + b.length ≤ 16777216)) (.ok (.str (a ++ b)) s)
  | .tup a, .tup b => Rs.iff (decide (a.length + b.length ≤ 16777216)) (.ok (.tup (a ++ b)) s)
  | _, _ => .bad
def rCatZ (K : PySem.W.Frag) : R2 := fun x y H Q => ∃ a b xs ys, x = .ref a ∧ y = .ref b ∧ SqT K H a xs ∧ SqT K H b ys ∧ xs.length + ys.length ≤ sizeLine ∧
  (xs = [] → Q (.ref b) H) ∧ (xs ≠ [] → ys = [] → Q (.ref a) H) ∧ (xs ≠ [] → ys ≠ [] → ∀ p o, H p = none → o.dict = none → Q (.ref p) (upd H p (.frz o (.tup (xs ++ ys)))))
theorem op_catZ {X : Cx} : OpR X (binaryOp .Add) (rCatZ X.K) := by
  intro pins s σ H x y v u Q I rx ry h
  obtain ⟨a, b, xs, ys, rfl, rfl, ha, hb, hz, q0, q1, q2⟩ := h
  cases rx
  cases ry
  obtain ⟨its, r1, p1, _⟩ := I.tuple ha
  obtain ⟨its2, r2, p2, _⟩ := I.tuple hb
  by_cases hx : xs = []
  · subst hx
    cases r1
    exact L2.cat_tup0 p1 p2 ⟨.ref b, H, I, rfl, q0 rfl⟩
  · refine HT.cat_tup p1 p2 (fun z => hx (r1.nil_iff.mp z)) (fun z => ⟨.ref a, H, I, rfl, q1 hx (r2.nil_iff.mp z)⟩) (fun z => ?_) (by rw [← r1.length, ← r2.length]; exact hz)
    exact tupK_new I (by rw [List.length_append]; exact hz) (r1.append r2) (q2 hx fun w => z (r2.nil_iff.mpr w))
def rAddZ (K : PySem.W.Frag) : R2 := fun x y H Q => ((rI0 (fun i j => .int (i + j)) x y H Q) ∨ (∃ i j : Str, x = .str i ∧ y = .str j ∧ i.length + j.length ≤ sizeLine ∧ Q (.str (i ++ j)) H)) ∨ rCatZ K x y H Q
theorem op_addZ {X : Cx} : OpR X (binaryOp .Add) (rAddZ X.K) := OpR.or (OpR.or op_add op_add_str) op_catZ
theorem oz_add : OpZ K (rAddZ K) gAdd := by
  intro B H s x y v w d s' Q S rx ry h q
  unfold gAdd at h
  split at h
  · cases h
    cases rx; cases ry
    exact .inl (.inl ⟨_, _, rfl, rfl, q.same S (.int _)⟩)
  · obtain ⟨hz, h⟩ := Rs.iff_ok h
    cases h
    cases rx; cases ry
    exact .inl (.inr ⟨_, _, rfl, rfl, len_line (of_decide_eq_true hz), q.same S (.str _)⟩)
  · obtain ⟨hz, h⟩ := Rs.iff_ok h
    cases h
    cases rx with
    | tup h1 r1 =>
      cases ry with
      | tup h2 r2 =>
        rename_i a xs b ys
        refine .inr ⟨_, _, _, _, rfl, rfl, h1.sq, h2.sq, len_line (by rw [← r1.length, ← r2.length]; exact of_decide_eq_true hz), fun e => ?_, fun _ e => ?_, fun _ _ p o hp hd => ?_⟩
        · subst e
          cases r1
          exact q.same S (.tup h2 r2)
        · subst e
          cases r2
          refine q.same S (.tup h1 ?_)
          rw [List.append_nil]; exact r1
        · exact new_tup S (r1.append r2) q hp hd
  · cases h
/-- * of ints, of a tuple and an int -/
def gMul (x y : Dv) (s : Sto) : Rs Dv := match x, y with
  | .int i, .int j => Rs.iff (cMul i j) (.ok (.int (i * j)) s)
  | _, _ => .bad
theorem oz_mul : OpZ K (rI CMul fun i j => .int (i * j)) gMul := oz_intC (c := cMul) (f := fun i j => i * j) cMul_ok
end
section
variable {G : Gz} {bs : List Str} {k : Nat} {X : Cx} {N : List Str} {nm : List (Str × NameKind)} {ow : Str → Bool} {a b c e : Expr} {fa fb fc : Fn Dv} {pos : Pos}
def gSub := gI fun i j => .int (i - j)
def gDiv := gIc cDiv fun i j => .int (i / j)
def gMod := gIc cMod fun i j => .int (i % j)
def gPow := gIc cPow fun i j => .int (i ^ j.toNat)
theorem z_add (ha : ZE X a fa) (hb : ZE X b fb) : ZE X (.BinOp a .Add b pos) (fBin gAdd fa fb) := z_op op_addZ oz_add ha hb
theorem z_sub (ha : ZE X a fa) (hb : ZE X b fb) : ZE X (.BinOp a .Sub b pos) (fBin gSub fa fb) := z_op op_sub oz_int ha hb
theorem z_mul (ha : ZE X a fa) (hb : ZE X b fb) : ZE X (.BinOp a .Mult b pos) (fBin gMul fa fb) := z_op op_mul oz_mul ha hb
theorem z_div (ha : ZE X a fa) (hb : ZE X b fb) : ZE X (.BinOp a .FloorDiv b pos) (fBin gDiv fa fb) := z_op op_fdivW (oz_intC cDiv_ok) ha hb
theorem z_mod (ha : ZE X a fa) (hb : ZE X b fb) : ZE X (.BinOp a .Mod b pos) (fBin gMod fa fb) := z_op op_mod (oz_intC cMod_ok) ha hb
theorem z_pow (ha : ZE X a fa) (hb : ZE X b fb) : ZE X (.BinOp a .Pow b pos) (fBin gPow fa fb) := z_op op_pow (oz_intC cPow_ok) ha hb
def gNeg (x : Dv) (s : Sto) : Rs Dv := match x with | .int i => .ok (.int (-i)) s | _ => .bad
end
end Z

namespace Z
open PySem PySem.Spec PyProof.Rows L2

/-! ### data of any depth -/
def py (s : Sto) : Nat → Dv → Option PyData
  | 0, _ => none
  | k + 1, d => match d with
    | .non => some .none
    | .bl b => some (.bool b)
    | .int i => some (.int i)
    | .str x => some (.str x)
    | .tup ds => (ds.mapM (py s k)).map .tuple
    | .ls ds => (ds.mapM (py s k)).map .list
    | .xn .. => none
    | .loc n => match s[n]? with
      | some (.lst ds) => (ds.mapM (py s k)).map .list
      | _ => none
abbrev pyOf (s : Sto) (d : Dv) : Option PyData := py s 40 d
theorem mapM_cons_some {α β : Type} {f : α → Option β} {a : α} {l : List α} {ys : List β} (h : (a :: l).mapM f = some ys) : ∃ y r, f a = some y ∧ l.mapM f = some r ∧ ys = y :: r := by
  rw [List.mapM_cons] at h
  cases e : f a with
  | none => rw [e] at h; cases h
  | some y =>
    rw [e] at h
    cases e2 : l.mapM f with
    | none => simp [e2] at h
    | some r => simp [e2] at h; exact ⟨y, r, rfl, rfl, h.symm⟩
section
variable {K : PySem.W.Frag} {B : Lo} {H : Hp} {s : Sto}
theorem dpAll_of {f : Dv → Option PyData} (hf : ∀ d v p, Rp K B H d v → f d = some p → Dp K H v p) : ∀ {ds : List Dv} {vs : List V} {ps : List PyData}, Rps K B H ds vs → ds.mapM f = some ps → DpAll K H vs ps
  | _, _, _, .nil, h => by simp at h; subst h; exact .nil
  | _, _, _, .cons h r, e => by
    obtain ⟨y, t, h1, h2, rfl⟩ := mapM_cons_some e
    exact .cons (hf _ _ _ h h1) (dpAll_of hf r h2)
theorem dp_of (S : Sim K B H s) : ∀ (k : Nat) (d : Dv) (v : V) (p : PyData), Rp K B H d v → py s k d = some p → Dp K H v p
  | 0, _, _, _, _, h => by cases h
  | k + 1, d, v, p, r, h => by
    cases r with
    | non => cases h; exact .non
    | bl b => cases h; exact .bl b
    | int i => cases h; exact .int i
    | str x => cases h; exact .str x
    | tup h1 h2 =>
      obtain ⟨ps, h3, rfl⟩ := Option.map_eq_some_iff.mp h
      exact .tup h1.sq (dpAll_of (dp_of S k) h2 h3)
    | ls h1 h2 =>
      obtain ⟨ps, h3, rfl⟩ := Option.map_eq_some_iff.mp h
      exact .lst h1.sq (dpAll_of (dp_of S k) h2 h3)
    | xn => cases h
    | loc h1 =>
      rename_i n a
      obtain ⟨o, ho, ro⟩ := S.at h1
      have h' : (match s[n]? with | some (.lst ds) => (ds.mapM (py s k)).map .list | _ => none) = some p := h
      rw [ho] at h'
      cases o with
      | lst ds =>
        obtain ⟨xs, e1, e2⟩ := ro
        obtain ⟨ps, h3, rfl⟩ := Option.map_eq_some_iff.mp h'
        exact .lst (.of e1) (dpAll_of (dp_of S k) e2 h3)
      | _ => cases h'
end

/-! ### comparisons -/
def gEq (x y : Dv) (s : Sto) : Rs Dv := match x, y with
  | .int i, .int j => .ok (.bl (i == j)) s
  | .str i, .str j => .ok (.bl (i == j)) s
  | .bl i, .bl j => .ok (.bl (i == j)) s
  | .non, .non => .ok (.bl true) s
  | x, y => match pyOf s x, pyOf s y with
    | some p, some q => Rs.iff (SeqAt.shaped p && SeqAt.shaped q) (.ok (.bl (PyData.eqv p q)) s)
    | _, _ => .bad
def gNot (g : Dv → Dv → Sto → Rs Dv) : Dv → Dv → Sto → Rs Dv := fun x y s => (g x y s).bind fun d s1 => match d with | .bl b => .ok (.bl (!b)) s1 | _ => .bad
def gNe := gNot gEq
def rEqZ (K : PySem.W.Frag) : R2 := fun x y H Q => rEq x y H Q ∨ rEqD K x y H Q
def rNeZ (K : PySem.W.Frag) : R2 := fun x y H Q => rNe x y H Q ∨ rNeD K x y H Q
theorem gEq_cases {x y d : Dv} {s s' : Sto} (h : gEq x y s = .ok d s') : s' = s ∧ ((∃ i j, x = .int i ∧ y = .int j ∧ d = .bl (i == j)) ∨ (∃ i j, x = .str i ∧ y = .str j ∧ d = .bl (i == j)) ∨ (∃ i j, x = .bl i ∧ y = .bl j ∧ d = .bl (i == j)) ∨ (x = .non ∧ y = .non ∧ d = .bl true) ∨
    ∃ p q, pyOf s x = some p ∧ pyOf s y = some q ∧ SeqAt.shaped p = true ∧ SeqAt.shaped q = true ∧ d = .bl (PyData.eqv p q)) := by
  unfold gEq at h
  split at h
  · cases h; exact ⟨rfl, .inl ⟨_, _, rfl, rfl, rfl⟩⟩
  · cases h; exact ⟨rfl, .inr (.inl ⟨_, _, rfl, rfl, rfl⟩)⟩
  · cases h; exact ⟨rfl, .inr (.inr (.inl ⟨_, _, rfl, rfl, rfl⟩))⟩
  · cases h; exact ⟨rfl, .inr (.inr (.inr (.inl ⟨rfl, rfl, rfl⟩)))⟩
  · split at h
    · rename_i e1 e2
      obtain ⟨h1, h2⟩ := Rs.iff_ok h
      rw [Bool.and_eq_true] at h1
      cases h2
      exact ⟨rfl, .inr (.inr (.inr (.inr ⟨_, _, e1, e2, h1.1, h1.2, rfl⟩)))⟩
    · cases h
theorem oz_ne {K : PySem.W.Frag} : OpZ K (rNeZ K) gNe := by
  intro B H s x y v w d s' Q S rx ry h q
  obtain ⟨b, s1, h, h5⟩ := Rs.bind_ok h
  obtain ⟨rfl, h⟩ := gEq_cases h
  rcases h with ⟨i, j, rfl, rfl, rfl⟩ | ⟨i, j, rfl, rfl, rfl⟩ | ⟨i, j, rfl, rfl, rfl⟩ | ⟨rfl, rfl, rfl⟩ | ⟨p, t, h1, h2, h3, h4, rfl⟩
  · cases rx; cases ry; cases h5
    refine .inl ⟨rfl, ?_⟩
    rw [dec_int]; exact q.same S (.bl _)
  · cases rx; cases ry; cases h5
    refine .inl ⟨rfl, ?_⟩
    rw [dec_str]; exact q.same S (.bl _)
  · cases rx; cases ry; cases h5
    refine .inl ⟨rfl, ?_⟩
    rw [dec_bl]; exact q.same S (.bl _)
  · cases rx; cases ry; cases h5
    exact .inl ⟨rfl, q.same S (.bl _)⟩
  · cases h5
    exact .inr ⟨p, t, dp_of S _ _ _ _ rx h1, dp_of S _ _ _ _ ry h2, h3, h4, q.same S (.bl _)⟩
/-- order of ints, of texts -/
def gOrd (f : Int → Int → Bool) (h : Str → Str → Bool) (x y : Dv) (s : Sto) : Rs Dv := match x, y with
  | .int i, .int j => .ok (.bl (f i j)) s
  | .str i, .str j => .ok (.bl (h i j)) s
  | _, _ => .bad
def strLt (i j : Str) : Bool := decide (i.cps.toList < j.cps.toList)
def rOrd (f : Int → Int → Bool) (h : Str → Str → Bool) : R2 := fun x y H Q => rI0 (fun i j => .bl (f i j)) x y H Q ∨ ∃ i j, x = .str i ∧ y = .str j ∧ Q (.bl (h i j)) H
theorem oz_ord {K : PySem.W.Frag} {f : Int → Int → Bool} {g : Str → Str → Bool} : OpZ K (rOrd f g) (gOrd f g) := by
  intro B H s x y v w d s' Q S rx ry h q
  unfold gOrd at h
  split at h
  · cases h; cases rx; cases ry
    exact .inl ⟨_, _, rfl, rfl, q.same S (.bl _)⟩
  · cases h; cases rx; cases ry
    exact .inr ⟨_, _, rfl, rfl, q.same S (.bl _)⟩
  · cases h
def gLt := gOrd (fun i j => decide (i < j)) strLt
def gLe := gOrd (fun i j => decide (i ≤ j)) (fun i j => !strLt j i)
def gGt := gOrd (fun i j => decide (j < i)) (fun i j => strLt j i)
def gGe := gOrd (fun i j => decide (j ≤ i)) (fun i j => !strLt i j)
section
variable {X : Cx}
theorem or_lt : OpR X (compareOp .Lt) (rOrd (fun i j => decide (i < j)) strLt) := OpR.or op_lt op_lt_str
theorem or_gt : OpR X (compareOp .Gt) (rOrd (fun i j => decide (j < i)) (fun i j => strLt j i)) := OpR.or op_gt op_gt_str
theorem or_ge : OpR X (compareOp .GtE) (rOrd (fun i j => decide (j ≤ i)) (fun i j => !strLt i j)) := OpR.or op_ge op_ge_str
end
/-- is, is not: None, truths -/
def gIs (x y : Dv) (s : Sto) : Rs Dv := match x, y with
  | .bl i, .bl j => .ok (.bl (i == j)) s
  | .non, .non => .ok (.bl true) s
  | _, .non => .ok (.bl false) s
  | _, _ => .bad
def gIsNot := gNot gIs
end Z

namespace Z
open PySem PySem.Spec PyProof.Rows L2
def rIsZ : R2 := fun x y H Q => (y = .non ∧ Q (.bl (decide (x = .non))) H) ∨ rIsB x y H Q
def rIsNotZ : R2 := fun x y H Q => (y = .non ∧ Q (.bl (!decide (x = .non))) H) ∨ rNotB x y H Q
/-! ### sequences -/
/-- what a list or a tuple holds -/
def seqOf (s : Sto) : Dv → Option (List Dv)
  | .tup ds => some ds
  | .ls ds => some ds
  | .loc n => match s[n]? with
    | some (.lst ds) => some ds
    | _ => none
  | _ => none
theorem seq_of {K : PySem.W.Frag} {B : Lo} {H : Hp} {s : Sto} (S : Sim K B H s) {d : Dv} {v : V} {ds : List Dv} (r : Rp K B H d v) (h : seqOf s d = some ds) : ∃ a xs, v = .ref a ∧ (SqL K H a xs ∨ SqT K H a xs) ∧ Rps K B H ds xs := by
  cases r with
  | tup h1 h2 => cases h; exact ⟨_, _, rfl, .inr h1.sq, h2⟩
  | ls h1 h2 => cases h; exact ⟨_, _, rfl, .inl h1.sq, h2⟩
  | loc h1 =>
    rename_i n a
    obtain ⟨o, ho, ro⟩ := S.at h1
    have h' : (match s[n]? with | some (.lst ds) => some ds | _ => none) = some ds := h
    rw [ho] at h'
    cases o with
    | lst es =>
      cases h'
      obtain ⟨xs, e1, e2⟩ := ro
      exact ⟨_, xs, rfl, .inl (.of e1), e2⟩
    | _ => cases h'
  | _ => cases h
/-- flat things -/
def fV : Dv → Option V
  | .non => some .non
  | .bl b => some (.bl b)
  | .int i => some (.int i)
  | .str x => some (.str x)
  | _ => none
theorem fV_of {K : PySem.W.Frag} {B : Lo} {H : Hp} {d : Dv} {v u : V} (r : Rp K B H d v) (h : fV d = some u) : v = u ∧ flatV u = true := by
  cases r <;> cases h <;> exact ⟨rfl, rfl⟩
theorem fVs_of {K : PySem.W.Frag} {B : Lo} {H : Hp} : ∀ {ds : List Dv} {vs us : List V}, Rps K B H ds vs → ds.mapM fV = some us → vs = us ∧ us.all flatV = true
  | _, _, _, .nil, h => by simp at h; subst h; exact ⟨rfl, rfl⟩
  | _, _, _, .cons r rr, h => by
    obtain ⟨y, t, h1, h2, rfl⟩ := mapM_cons_some h
    obtain ⟨rfl, e1⟩ := fV_of r h1
    obtain ⟨rfl, e2⟩ := fVs_of rr h2
    exact ⟨rfl, by simp [e1, e2]⟩
def gIn (x y : Dv) (s : Sto) : Rs Dv := match x, y with
  | .str a, .str b => .ok (.bl (!(Builtin.Str.occurrences b a 0 b.length 1).isEmpty)) s
  | x, y => match fV x, (seqOf s y).bind (·.mapM fV) with
    | some v, some vs => .ok (.bl (inV v vs)) s
    | _, _ => .bad
def gNotIn := gNot gIn
theorem gIn_cases {x y d : Dv} {s s' : Sto} (h : gIn x y s = .ok d s') : s' = s ∧ ((∃ a b, x = .str a ∧ y = .str b ∧ d = .bl (!(Builtin.Str.occurrences b a 0 b.length 1).isEmpty)) ∨
    ∃ v ds vs, fV x = some v ∧ seqOf s y = some ds ∧ ds.mapM fV = some vs ∧ d = .bl (inV v vs)) := by
  unfold gIn at h
  split at h
  · cases h; exact ⟨rfl, .inl ⟨_, _, rfl, rfl, rfl⟩⟩
  · split at h
    · rename_i v vs e1 e2
      obtain ⟨ds, e3, e4⟩ := Option.bind_eq_some_iff.mp e2
      cases h; exact ⟨rfl, .inr ⟨v, ds, vs, e1, e3, e4, rfl⟩⟩
    · cases h
def rInZ (K : PySem.W.Frag) : R2 := fun x y H Q => (∃ i j, x = .str i ∧ y = .str j ∧ Q (.bl (!(Builtin.Str.occurrences j i 0 j.length 1).isEmpty)) H) ∨ rIn K false x y H Q
def rNotInZ (K : PySem.W.Frag) : R2 := fun x y H Q => (∃ i j, x = .str i ∧ y = .str j ∧ Q (.bl (!(!(Builtin.Str.occurrences j i 0 j.length 1).isEmpty))) H) ∨ rIn K true x y H Q
theorem oz_in {K : PySem.W.Frag} : OpZ K (rInZ K) gIn := by
  intro B H s x y v w d s' Q S rx ry h q
  obtain ⟨rfl, h⟩ := gIn_cases h
  rcases h with ⟨a, b, rfl, rfl, rfl⟩ | ⟨u, ds, vs, h1, h2, h3, rfl⟩
  · cases rx; cases ry
    exact .inl ⟨a, b, rfl, rfl, q.same S (.bl _)⟩
  · obtain ⟨rfl, f1⟩ := fV_of rx h1
    obtain ⟨p, xs, rfl, hq, rr⟩ := seq_of S ry h2
    obtain ⟨rfl, f2⟩ := fVs_of rr h3
    exact .inr ⟨p, xs, rfl, hq, f1, f2, q.same S (.bl _)⟩
theorem oz_notin {K : PySem.W.Frag} : OpZ K (rNotInZ K) gNotIn := by
  intro B H s x y v w d s' Q S rx ry h q
  obtain ⟨b, s1, h, h5⟩ := Rs.bind_ok h
  obtain ⟨rfl, h⟩ := gIn_cases h
  rcases h with ⟨a, b, rfl, rfl, rfl⟩ | ⟨u, ds, vs, h1, h2, h3, rfl⟩
  · cases rx; cases ry; cases h5
    exact .inl ⟨a, b, rfl, rfl, q.same S (.bl _)⟩
  · cases h5
    obtain ⟨rfl, f1⟩ := fV_of rx h1
    obtain ⟨p, xs, rfl, hq, rr⟩ := seq_of S ry h2
    obtain ⟨rfl, f2⟩ := fVs_of rr h3
    exact .inr ⟨p, xs, rfl, hq, f1, f2, q.same S (.bl _)⟩
section
variable {G : Gz} {bs : List Str} {k : Nat} {X : Cx} {N : List Str} {nm : List (Str × NameKind)} {ow : Str → Bool} {a b c e : Expr} {fa fb fc : Fn Dv} {pos : Pos}
theorem z_lt (c : Cz G bs k X N nm ow) (ha : ZE X a fa) (hb : ZE X b fb) : ZE X (.Compare a [.Lt] [b] pos) (fBin gLt fa fb) := z_cmp or_lt oz_ord ha hb (nomark _)
theorem z_neT (c : Cz G bs k X N nm ow) (ha : ZE X a fa) (hb : ZE X b fb) : ZT X (.Compare a [.NotEq] [b] pos) (fTest (fBin gNe fa fb)) := z_cmpT (OpR.or op_ne (op_neD c.un)) oz_ne ha hb (nomark _)
theorem z_ltT (c : Cz G bs k X N nm ow) (ha : ZE X a fa) (hb : ZE X b fb) : ZT X (.Compare a [.Lt] [b] pos) (fTest (fBin gLt fa fb)) := z_cmpT or_lt oz_ord ha hb (nomark _)
theorem z_gtT (c : Cz G bs k X N nm ow) (ha : ZE X a fa) (hb : ZE X b fb) : ZT X (.Compare a [.Gt] [b] pos) (fTest (fBin gGt fa fb)) := z_cmpT or_gt oz_ord ha hb (nomark _)
theorem z_geT (c : Cz G bs k X N nm ow) (ha : ZE X a fa) (hb : ZE X b fb) : ZT X (.Compare a [.GtE] [b] pos) (fTest (fBin gGe fa fb)) := z_cmpT or_ge oz_ord ha hb (nomark _)
theorem z_inT (c : Cz G bs k X N nm ow) (ha : ZE X a fa) (hb : ZE X b fb) (hm : behindInMarks .In b = false := by rfl) : ZT X (.Compare a [.In] [b] pos) (fTest (fBin gIn fa fb)) := z_cmpT (OpR.or op_in_str op_in_seq) oz_in ha hb hm
theorem z_notinT (c : Cz G bs k X N nm ow) (ha : ZE X a fa) (hb : ZE X b fb) (hm : behindInMarks .NotIn b = false := by rfl) : ZT X (.Compare a [.NotIn] [b] pos) (fTest (fBin gNotIn fa fb)) := z_cmpT (OpR.or op_notIn_str op_notIn_seq) oz_notin ha hb hm
end

/-! ### a[i] -/
def gIx (x y : Dv) (s : Sto) : Rs Dv := match x, y with
  | .str z, .int i => match atI z.cps.toList i with
    | some c => Rs.iff (decide (z.length ≤ 16777216)) (.ok (.str ⟨#[c]⟩) s)
    | none => .bad
  | .loc n, y => match s[n]?, y with
    | some (.lst ds), .int i => match atI ds i with | some d => .ok d s | none => .bad
    | some (.dk kvs), .int i => match valV' kvs (.inl i) with | some d => .ok d s | none => .bad
    | some (.dk kvs), .str z => match valV' kvs (.inr z) with | some d => .ok d s | none => .bad
    | _, _ => .bad
  | x, .int i => match (seqOf s x).bind (atI · i) with | some d => .ok d s | none => .bad
  | _, _ => .bad
where valV' (kvs : List (Key × Dv)) (k : Key) : Option Dv := (kvs.find? fun kv => decide (kv.1 = k)).map (·.2)
abbrev lookK := gIx.valV'
theorem rps_atI {K : PySem.W.Frag} {B : Lo} {H : Hp} {ds : List Dv} {xs : List V} (r : Rps K B H ds xs) {i : Int} {d : Dv} (h : atI ds i = some d) : ∃ v, atI xs i = some v ∧ Rp K B H d v := by
  obtain ⟨j, h1, h2⟩ := Option.bind_eq_some_iff.mp h
  obtain ⟨v, h3, h4⟩ := r.get h2
  refine ⟨v, ?_, h4⟩
  unfold atI
  rw [← r.length, h1]
  exact h3
theorem look_rel {K : PySem.W.Frag} {B : Lo} {H : Hp} {κ : Type} [DecidableEq κ] : ∀ {kvs : List (κ × Dv)} {ks : List (κ × V)}, Paired (fun (p : κ × Dv) (q : κ × V) => p.1 = q.1 ∧ Rp K B H p.2 q.2) kvs ks → ∀ {k : κ} {d : Dv},
    (kvs.find? fun kv => decide (kv.1 = k)).map (·.2) = some d → ∃ v, valV ks k = some v ∧ Rp K B H d v
  | _, _, .nil, k, d, h => by simp at h
  | (k1, d1) :: _, (k2, v2) :: _, .cons ⟨e, r⟩ t, k, d, h => by
    have e : k1 = k2 := e
    subst e
    unfold valV
    rw [List.find?_cons] at h ⊢
    by_cases hk : k1 = k
    · simp only [hk, decide_true] at h ⊢
      cases h
      exact ⟨v2, rfl, r⟩
    · simp only [hk, decide_false] at h ⊢
      exact look_rel t h
theorem gIx_cases {x y d : Dv} {s s' : Sto} (h : gIx x y s = .ok d s') : s' = s ∧ ((∃ z i c, x = .str z ∧ y = .int i ∧ atI z.cps.toList i = some c ∧ z.length ≤ 16777216 ∧ d = .str ⟨#[c]⟩) ∨
    (∃ i ds, y = .int i ∧ seqOf s x = some ds ∧ atI ds i = some d) ∨ ∃ n kvs k, x = .loc n ∧ s[n]? = some (.dk kvs) ∧ ((∃ i, y = .int i ∧ k = .inl i) ∨ ∃ z, y = .str z ∧ k = .inr z) ∧ lookK kvs k = some d) := by
  unfold gIx at h
  split at h
  · split at h
    · rename_i e
      obtain ⟨h1, h2⟩ := Rs.iff_ok h
      cases h2
      exact ⟨rfl, .inl ⟨_, _, _, rfl, rfl, e, of_decide_eq_true h1, rfl⟩⟩
    · cases h
  · split at h
    · rename_i e1
      split at h
      · rename_i e2
        cases h
        refine ⟨rfl, .inr (.inl ⟨_, _, rfl, ?_, e2⟩)⟩
        simp only [seqOf, e1]
      · cases h
    · rename_i e1
      split at h
      · rename_i e2
        cases h
        exact ⟨rfl, .inr (.inr ⟨_, _, _, rfl, e1, .inl ⟨_, rfl, rfl⟩, e2⟩)⟩
      · cases h
    · rename_i e1
      split at h
      · rename_i e2
        cases h
        exact ⟨rfl, .inr (.inr ⟨_, _, _, rfl, e1, .inr ⟨_, rfl, rfl⟩, e2⟩)⟩
      · cases h
    · cases h
  · split at h
    · rename_i e
      obtain ⟨ds, e1, e2⟩ := Option.bind_eq_some_iff.mp e
      cases h
      exact ⟨rfl, .inr (.inl ⟨_, _, rfl, e1, e2⟩)⟩
    · cases h
  · cases h
theorem rp_key {K : PySem.W.Frag} {B : Lo} {H : Hp} {y : Dv} {w : V} {k : Key} (ry : Rp K B H y w) (h : (∃ i, y = .int i ∧ k = .inl i) ∨ ∃ z, y = .str z ∧ k = .inr z) : w = kV k := by
  rcases h with ⟨i, rfl, rfl⟩ | ⟨z, rfl, rfl⟩
  · cases ry; rfl
  · cases ry; rfl
section
variable {G : Gz} {bs : List Str} {k : Nat} {X : Cx} {N : List Str} {nm : List (Str × NameKind)} {ow : Str → Bool} {a b c e : Expr} {fa fb fc : Fn Dv} {pos : Pos}
theorem z_ix (c : Cz G bs k X N nm ow) (ha : ZE X a fa) (hb : ZE X b fb) (hs : PlainIx b := by exact fun _ _ => rfl) : ZE X (.Subscript a b pos) (fBin gIx fa fb) := by
  refine pe_mono (pe_alt (pe_ix ix_seq ha hb hs) (pe_dget (hu_of c.rm) ha hb hs)) fun σ H Q q => ?_
  obtain ⟨B, env, s, d, s', hE, hS, hf, hQ⟩ := q
  obtain ⟨x, s1, h1, hf⟩ := Rs.bind_ok hf
  obtain ⟨y, s2, h2, hf⟩ := Rs.bind_ok hf
  obtain ⟨rfl, hg⟩ := gIx_cases hf
  rcases hg with hg | hg | ⟨n, kvs, ky, rfl, e1, e2, e3⟩
  · left
    refine ⟨B, env, s, _, _, hE, hS, h1, fun B1 H1 v x1 e1 S1 r1 => ?_⟩
    refine ⟨B1, env, s1, _, _, hE.mono x1.mo, S1, h2, fun B2 H2 w x2 e2 S2 r2 => ?_⟩
    obtain ⟨z, i, c, rfl, rfl, h3, h4, rfl⟩ := hg
    cases r1; cases r2
    exact .inr (.inr ⟨z, i, c, rfl, rfl, len_line h4, h3, hQ B2 H2 _ (x1.trans x2) (e2.trans e1) S2 (.str _)⟩)
  · left
    refine ⟨B, env, s, _, _, hE, hS, h1, fun B1 H1 v x1 e1 S1 r1 => ?_⟩
    refine ⟨B1, env, s1, _, _, hE.mono x1.mo, S1, h2, fun B2 H2 w x2 e2 S2 r2 => ?_⟩
    obtain ⟨i, ds, rfl, h3, h4⟩ := hg
    obtain ⟨p, xs, rfl, hq, rr⟩ := seq_of S2 (r1.mono x2.mo) h3
    obtain ⟨u, h5, ru⟩ := rps_atI rr h4
    cases r2
    rcases hq with hq | hq
    · exact .inl ⟨p, xs, i, u, rfl, rfl, hq, h5, hQ B2 H2 _ (x1.trans x2) (e2.trans e1) S2 ru⟩
    · exact .inr (.inl ⟨p, xs, i, u, rfl, rfl, hq, h5, hQ B2 H2 _ (x1.trans x2) (e2.trans e1) S2 ru⟩)
  · right
    refine ⟨B, env, s, _, _, hE, hS, h1, fun B1 H1 v x1 ee1 S1 r1 => ?_⟩
    refine ⟨B1, env, s1, _, _, hE.mono x1.mo, S1, h2, fun B2 H2 w x2 ee2 S2 r2 => ?_⟩
    cases r1.mono x2.mo with
    | loc hl =>
      obtain ⟨o, ho, ro⟩ := S2.at hl
      rw [e1] at ho; cases ho
      obtain ⟨ks, h3, h4⟩ := ro
      obtain ⟨u, h5, ru⟩ := look_rel h4 e3
      rw [rp_key r2 e2]
      refine ⟨_, u, rfl, ?_, hQ B2 H2 _ (x1.trans x2) (ee2.trans ee1) S2 ru⟩
      rw [← h5]
      exact DGet.k h3
end
end Z

namespace Z
open PySem PySem.Spec PyProof.Rows L2

/-! ### statements -/
inductive Ct where
  | next (env : En) | ret (d : Dv) | brk (env : En) | cont (env : En)
def PostC (K : PySem.W.Frag) (B : Lo) (H : Hp) (s' : Sto) (D : Ends) : Ct → Prop
  | .next env => ∀ (B' : Lo) (H' : Hp) (σ' : L2.St), Ext B H B' H' → B'.hid = B.hid → Sim K B' H' s' → RpE K B' H' env σ' → D.nx σ' H'
  | .ret d => ∀ (B' : Lo) (H' : Hp) (v : V), Ext B H B' H' → B'.hid = B.hid → Sim K B' H' s' → Rp K B' H' d v → D.rt v H'
  | .brk env => ∀ (B' : Lo) (H' : Hp) (σ' : L2.St), Ext B H B' H' → B'.hid = B.hid → Sim K B' H' s' → RpE K B' H' env σ' → D.bk σ' H'
  | .cont env => ∀ (B' : Lo) (H' : Hp) (σ' : L2.St), Ext B H B' H' → B'.hid = B.hid → Sim K B' H' s' → RpE K B' H' env σ' → D.ct σ' H'
def tOfS (K : PySem.W.Frag) (f : Fn Ct) : TS := fun D σ H => ∃ B env s c s', RpE K B H env σ ∧ Sim K B H s ∧ f env s = .ok c s' ∧ PostC K B H s' D c
abbrev ZS (X : Cx) (st : Stmt) (f : Fn Ct) : Prop := PS X st (tOfS X.K f)
abbrev ZB (X : Cx) (st : List Stmt) (f : Fn Ct) : Prop := PSs X st (tOfS X.K f)
theorem pss_mono {X : Cx} {e : List Stmt} {t t' : TS} (h : PSs X e t) (hh : ∀ D σ H, t' D σ H → t D σ H) : PSs X e t' := ⟨fun pins s σ H Q I q => h.run pins s σ H Q I (hh _ _ _ q)⟩
theorem PostC.ahead {K : PySem.W.Frag} {B B1 : Lo} {H H1 : Hp} {s' : Sto} {D : Ends} (x : Ext B H B1 H1) (e : B1.hid = B.hid) : ∀ {c : Ct}, PostC K B H s' D c → PostC K B1 H1 s' D c
  | .next env, h => fun B' H' σ' x' e' S r => h B' H' σ' (x.trans x') (e'.trans e) S r
  | .ret d, h => fun B' H' σ' x' e' S r => h B' H' σ' (x.trans x') (e'.trans e) S r
  | .brk env, h => fun B' H' σ' x' e' S r => h B' H' σ' (x.trans x') (e'.trans e) S r
  | .cont env, h => fun B' H' σ' x' e' S r => h B' H' σ' (x.trans x') (e'.trans e) S r
def fNop : Fn Ct := fun env s => .ok (.next env) s
def fSeq (f g : Fn Ct) : Fn Ct := fun env s => (f env s).bind fun c s1 => match c with | .next e => g e s1 | c => .ok c s1
section
variable {G : Gz} {bs : List Str} {k : Nat} {X : Cx} {N : List Str} {nm : List (Str × NameKind)} {ow : Str → Bool} {a b c e : Expr} {fa fb fc : Fn Dv} {pos : Pos} {st : Stmt} {rest p q : List Stmt} {f g : Fn Ct} {x : Str} {i : Nat} {tc : Fn Bool}
theorem z_snil : ZB X [] fNop := by
  refine pss_mono pss_nil fun D σ H q => ?_
  obtain ⟨B, env, s, c, s', hE, hS, hf, hQ⟩ := q
  cases hf
  exact hQ B H σ (Ext.refl _ _) rfl hS hE
theorem z_cons2 (h1 : ZS X st f) (h2 : ZB X rest g) : ZB X (st :: rest) (fSeq f g) := by
  refine pss_mono (pss_cons h1 h2) fun D σ H q => ?_
  obtain ⟨B, env, s, c, s', hE, hS, hf, hQ⟩ := q
  obtain ⟨c1, s1, h1, hf⟩ := Rs.bind_ok hf
  refine ⟨B, env, s, c1, s1, hE, hS, h1, ?_⟩
  cases c1 with
  | next e1 => exact fun B1 H1 σ1 x1 ee S1 r1 => ⟨B1, e1, s1, c, s', r1, S1, hf, hQ.ahead x1 ee⟩
  | ret d => cases hf; exact hQ
  | brk d => cases hf; exact hQ
  | cont d => cases hf; exact hQ
theorem z_sone (h1 : ZS X st f) : ZB X [st] f := pss_one h1
def fBrk : Fn Ct := fun env s => .ok (.brk env) s
def fCont : Fn Ct := fun env s => .ok (.cont env) s
/-- a statement that the law never comes to -/
def fNever : Fn Ct := fun _ _ => .bad
def fDrop (f : Fn Dv) : Fn Ct := fun env s => (f env s).bind fun _ s1 => .ok (.next env) s1
theorem z_expr (h : ZE X e fa) (hs : swapsWith e none pos.line X.env = pure false := by rfl) : ZS X (.Expr e pos) (fDrop fa) := by
  refine ps_mono (ps_expr h hs) fun D σ H q => ?_
  obtain ⟨B, env, s, c, s', hE, hS, hf, hQ⟩ := q
  obtain ⟨d, s1, h1, hf⟩ := Rs.bind_ok hf
  cases hf
  exact ⟨B, env, s, _, _, hE, hS, h1, fun B1 H1 v x1 e1 S1 r1 => hQ B1 H1 σ x1 e1 S1 (hE.mono x1.mo)⟩
def fRet (f : Fn Dv) : Fn Ct := fun env s => (f env s).bind fun d s1 => .ok (.ret d) s1
theorem z_ret (h : ZE X e fa) : ZS X (.Return (some e) pos) (fRet fa) := by
  refine ps_mono (ps_ret h) fun D σ H q => ?_
  obtain ⟨B, env, s, c, s', hE, hS, hf, hQ⟩ := q
  obtain ⟨d, s1, h1, hf⟩ := Rs.bind_ok hf
  cases hf
  exact ⟨B, env, s, _, _, hE, hS, h1, fun B1 H1 v x1 e1 S1 r1 => hQ B1 H1 v x1 e1 S1 r1⟩
def fRetN : Fn Ct := fun _ s => .ok (.ret .non) s
def fIfS (t : Fn Bool) (f g : Fn Ct) : Fn Ct := fun env s => (t env s).bind fun b s1 => if b = true then f env s1 else g env s1
theorem z_ifS (hc : ZT X a tc) (hp : ZB X p f) (hq : ZB X q g) : ZS X (.If a p q pos) (fIfS tc f g) := by
  refine ps_mono (ps_if hc hp hq) fun D σ H q => ?_
  obtain ⟨B, env, s, c, s', hE, hS, hf, hQ⟩ := q
  obtain ⟨d, s1, h1, hf⟩ := Rs.bind_ok hf
  refine ⟨B, env, s, _, _, hE, hS, h1, fun B1 H1 x1 e1 S1 => ?_⟩
  split at hf
  · rename_i hx
    rw [if_pos hx]
    exact ⟨B1, env, s1, c, s', hE.mono x1.mo, S1, hf, hQ.ahead x1 e1⟩
  · rename_i hx
    rw [if_neg hx]
    exact ⟨B1, env, s1, c, s', hE.mono x1.mo, S1, hf, hQ.ahead x1 e1⟩
/-- a name is set -/
def fSet (i : Nat) (f : Fn Dv) : Fn Ct := fun env s => (f env s).bind fun d s1 => .ok (.next (env.set i (some d))) s1
theorem set_to {K : PySem.W.Frag} {te : TE} (ht : ∀ σ H Q, tOf K fa σ H Q → te σ H Q) : ∀ D σ H, tOfS K (fSet i fa) D σ H → tAsg te (gName i) D σ H := fun D σ H q => by
  obtain ⟨B, env, s, c, s', hE, hS, hf, hQ⟩ := q
  obtain ⟨d, s1, h1, hf⟩ := Rs.bind_ok hf
  cases hf
  exact ht _ _ _ ⟨B, env, s, _, _, hE, hS, h1, fun B1 H1 v x1 e1 S1 r1 => hQ B1 H1 _ x1 e1 S1 ((hE.mono x1.mo).set i r1)⟩
theorem z_set {pos' : Pos} (c : Cz G bs k X N nm ow) (h : sOk N nm ow i x = true) (he : ZE X e fa) (hs : swapsWith e (some (.Name x pos')) pos.line X.env = pure false := by rfl) : ZS X (.Assign [.Name x pos'] e pos) (fSet i fa) := by
  obtain ⟨h1, h2, h3⟩ := c.loc h
  have nd : X.N.Nodup := by rw [c.hN]; exact c.nd
  exact ps_mono (ps_set nd h1 h2 he hs h3) (set_to fun _ _ _ h => h)
end

/-! ### targets -/
/-- an item of a loop: q: a pair that came up for the loop's target alone -/
def Rel (K : PySem.W.Frag) (q : Bool) (B : Lo) (H : Hp) (d : Dv) (v : V) : Prop := match q with
  | false => Rp K B H d v
  | true => Rp K B H d v ∨ ∃ a xs ds, d = .tup ds ∧ v = .ref a ∧ SqT K H a xs ∧ Rps K B H ds xs
theorem Rel.of {K : PySem.W.Frag} {q : Bool} {B : Lo} {H : Hp} {d : Dv} {v : V} (h : Rp K B H d v) : Rel K q B H d v := by
  cases q
  · exact h
  · exact .inl h
/-- the slots alone that is names -/
def Only1 (is : List Nat) (σ σ' : L2.St) : Prop := σ'.length = σ.length ∧ ∀ j : Nat, j ∉ is → σ'[j]? = σ[j]?
def tOfG (K : PySem.W.Frag) (q : Bool) (is : List Nat) (g : Dv → Fn En) : TG := fun v σ H Q => ∃ B env s d env' s', RpE K B H env σ ∧ Sim K B H s ∧ Rel K q B H d v ∧ g d env s = .ok env' s' ∧
  ∀ (B' : Lo) (H' : Hp) (σ' : L2.St), Ext B H B' H' → B'.hid = B.hid → Sim K B' H' s' → RpE K B' H' env' σ' → Only1 is σ σ' → Q σ' H'
abbrev ZG (X : Cx) (q : Bool) (is : List Nat) (tg : Expr) (g : Dv → Fn En) : Prop := PG X tg (tOfG X.K q is g)
def tOfGs (K : PySem.W.Frag) (is : List Nat) (g : List Dv → Fn En) : TGs := fun vs σ H Q => ∃ B env s ds env' s', RpE K B H env σ ∧ Sim K B H s ∧ Rps K B H ds vs ∧ g ds env s = .ok env' s' ∧
  ∀ (B' : Lo) (H' : Hp) (σ' : L2.St), Ext B H B' H' → B'.hid = B.hid → Sim K B' H' s' → RpE K B' H' env' σ' → Only1 is σ σ' → Q σ' H'
abbrev ZGs (X : Cx) (is : List Nat) (tg : List Expr) (g : List Dv → Fn En) : Prop := PGs X tg (tOfGs X.K is g)
def gNm (i : Nat) : Dv → Fn En := fun d env s => .ok (env.set i (some d)) s
def gsNil : List Dv → Fn En := fun ds env s => match ds with | [] => .ok env s | _ => .bad
def gsCons (g : Dv → Fn En) (h : List Dv → Fn En) : List Dv → Fn En := fun ds env s => match ds with | d :: r => (g d env s).bind fun env1 s1 => h r env1 s1 | _ => .bad
def gTp (n : Nat) (h : List Dv → Fn En) : Dv → Fn En := fun d env s => match d with | .tup ds => Rs.iff (ds.length == n) (h ds env s) | _ => .bad
section
variable {G : Gz} {bs : List Str} {k : Nat} {X : Cx} {N : List Str} {nm : List (Str × NameKind)} {ow : Str → Bool} {a b c e : Expr} {fa fb fc : Fn Dv} {pos : Pos} {x : Str} {i : Nat} {q : Bool}
theorem zg_name (c : Cz G bs k X N nm ow) (h : sOk N nm ow i x = true) : ZG X false [i] (.Name x pos) (gNm i) := by
  obtain ⟨h1, h2, h3⟩ := c.loc h
  have nd : X.N.Nodup := by rw [c.hN]; exact c.nd
  refine pg_mono (pg_name nd h1 h2 h3) fun v σ H Q q => ?_
  obtain ⟨B, env, s, d, env', s', hE, hS, hr, hg, hQ⟩ := q
  cases hg
  refine hQ B H _ (Ext.refl _ _) rfl hS (hE.set i hr) ⟨by rw [List.length_set], fun j hj => ?_⟩
  rw [List.getElem?_set_ne (fun e => hj (by rw [e]; exact List.mem_singleton.mpr rfl))]
/-- target = value, by any target -/
def fAsg (f : Fn Dv) (g : Dv → Fn En) : Fn Ct := fun env s => (f env s).bind fun d s1 => (g d env s1).bind fun env1 s2 => .ok (.next env1) s2
end
end Z

namespace Z
open PySem PySem.Spec PyProof.Rows L2

mutual
def eqDv : Dv → Dv → Bool
  | .non, .non => true
  | .bl a, .bl b => a == b
  | .int a, .int b => a == b
  | .str a, .str b => decide (a = b)
  | .tup a, .tup b => eqDvs a b
  | .ls a, .ls b => eqDvs a b
  | .loc a, .loc b => a == b
  | .xn a b c fs, .xn a2 b2 c2 gs => decide (a = a2) && (decide (b = b2) && (decide (c = c2) && eqDvs fs gs))
  | _, _ => false
def eqDvs : List Dv → List Dv → Bool
  | [], [] => true
  | a :: r, b :: t => eqDv a b && eqDvs r t
  | _, _ => false
end
mutual
theorem eqDv_eq : ∀ {a b : Dv}, eqDv a b = true → a = b
  | .non, b, h => by cases b <;> first | rfl | cases h
  | .bl x, b, h => by cases b <;> first | (rw [beq_iff_eq.mp h]) | cases h
  | .int x, b, h => by cases b <;> first | (rw [beq_iff_eq.mp h]) | cases h
  | .str x, b, h => by cases b <;> first | (rw [of_decide_eq_true h]) | cases h
  | .tup x, b, h => by cases b <;> first | (rw [eqDvs_eq h]) | cases h
  | .ls x, b, h => by cases b <;> first | (rw [eqDvs_eq h]) | cases h
  | .loc x, b, h => by cases b <;> first | (rw [beq_iff_eq.mp h]) | cases h
  | .xn x y z w, b, h => by
    cases b with
    | xn x2 y2 z2 w2 =>
      have h' : (decide (x = x2) && (decide (y = y2) && (decide (z = z2) && eqDvs w w2))) = true := h
      rw [Bool.and_eq_true, Bool.and_eq_true, Bool.and_eq_true] at h'
      rw [of_decide_eq_true h'.1, of_decide_eq_true h'.2.1, of_decide_eq_true h'.2.2.1, eqDvs_eq h'.2.2.2]
    | _ => cases h
theorem eqDvs_eq : ∀ {a b : List Dv}, eqDvs a b = true → a = b
  | [], b, h => by cases b <;> first | rfl | cases h
  | x :: r, b, h => by
    cases b with
    | nil => cases h
    | cons y t =>
      have h' : (eqDv x y && eqDvs r t) = true := h
      rw [Bool.and_eq_true] at h'
      rw [eqDv_eq h'.1, eqDvs_eq h'.2]
end
mutual
theorem eqDv_rfl : ∀ a : Dv, eqDv a a = true
  | .non => rfl
  | .bl x => by simp [eqDv]
  | .int x => by simp [eqDv]
  | .str x => by simp [eqDv]
  | .tup x => by simp [eqDv, eqDvs_rfl x]
  | .ls x => by simp [eqDv, eqDvs_rfl x]
  | .loc x => by simp [eqDv]
  | .xn x y z w => by simp [eqDv, eqDvs_rfl w]
theorem eqDvs_rfl : ∀ a : List Dv, eqDvs a a = true
  | [] => rfl
  | x :: r => by simp [eqDvs, eqDv_rfl x, eqDvs_rfl r]
end

/-! ### what is walked -/
def isLst (n : Nat) (ds : List Dv) (s : Sto) : Bool := match s[n]? with | some (.lst es) => eqDvs es ds | _ => false
theorem isLst_at {n : Nat} {ds : List Dv} {s : Sto} (h : isLst n ds s = true) : s[n]? = some (.lst ds) := by
  unfold isLst at h
  split at h
  · rename_i e; rw [e, eqDvs_eq h]
  · cases h
abbrev Src := List Dv × (Sto → Bool)
/-- from here on the walk hands out ds, as long as the check holds -/
def WalkZ (K : PySem.W.Frag) (q : Bool) (J : It) (B : Lo) (H : Hp) (src : Src) : Prop :=
  ∀ (B1 : Lo) (H1 : Hp) (s1 : Sto), Ext B H B1 H1 → Sim K B1 H1 s1 → src.2 s1 = true →
    (∀ (i : Nat) (d : Dv), src.1[i]? = some d → J.go i H1 ∧ ∀ x H2, J.yld i H1 x H2 → Ext B1 H1 B1 H2 ∧ Sim K B1 H2 s1 ∧ Rel K q B1 H2 d x) ∧ J.stop src.1.length H1
def tOfI (K : PySem.W.Frag) (q : Bool) (f : Fn Src) : TI := fun σ H R => ∃ B env s src s', RpE K B H env σ ∧ Sim K B H s ∧ f env s = .ok src s' ∧
  ∀ (B' : Lo) (H' : Hp) (J : It), Ext B H B' H' → B'.hid = B.hid → Sim K B' H' s' → WalkZ K q J B' H' src → R J H'
abbrev ZI (X : Cx) (q : Bool) (tg iter : Expr) (f : Fn Src) : Prop := PI X tg iter (tOfI X.K q f)
theorem pi_mono {X : Cx} {tg e : Expr} {t t' : TI} (h : PI X tg e t) (hh : ∀ σ H Q, t' σ H Q → t σ H Q) : PI X tg e t' := ⟨fun pins s σ H Q I q => h.run pins s σ H Q I (hh _ _ _ q)⟩
theorem pi_alt {X : Cx} {tg e : Expr} {t t' : TI} (h : PI X tg e t) (h' : PI X tg e t') : PI X tg e (fun σ H Q => t σ H Q ∨ t' σ H Q) := ⟨fun pins s σ H Q I q => q.elim (h.run pins s σ H Q I) (h'.run pins s σ H Q I)⟩
theorem walk_list {K : PySem.W.Frag} {a : Addr} {q : Bool} {B : Lo} {H : Hp} {ds : List Dv} {chk : Sto → Bool} (h : ∀ (B1 : Lo) (H1 : Hp) (s1 : Sto), Ext B H B1 H1 → Sim K B1 H1 s1 → chk s1 = true → ∃ xs, SqL K H1 a xs ∧ Rps K B1 H1 ds xs) : WalkZ K q (Itl K a) B H (ds, chk) := by
  intro B1 H1 s1 x S hc
  obtain ⟨xs, h1, h2⟩ := h B1 H1 s1 x S hc
  refine ⟨fun i d e => ?_, xs, h1, by rw [← h2.length]; exact Nat.le_refl _⟩
  obtain ⟨v, e1, r⟩ := h2.get e
  refine ⟨⟨xs, v, h1, e1⟩, fun y H2 hy => ?_⟩
  obtain ⟨rfl, hy⟩ := hy
  have e2 := hy xs h1
  rw [e1] at e2; cases e2
  exact ⟨Ext.refl _ _, S, .of r⟩
theorem walk_tup {K : PySem.W.Frag} {a : Addr} {q : Bool} {B : Lo} {H : Hp} {ds : List Dv} {chk : Sto → Bool} {xs : List V} (h1 : Tk K H a xs) (h2 : Rps K B H ds xs) : WalkZ K q (Itt K a) B H (ds, chk) := by
  intro B1 H1 s1 x S hc
  have h1 := (x.mo.tk h1).sq
  have h2 := h2.mono x.mo
  refine ⟨fun i d e => ?_, xs, h1, by rw [← h2.length]; exact Nat.le_refl _⟩
  obtain ⟨v, e1, r⟩ := h2.get e
  refine ⟨⟨xs, v, h1, e1⟩, fun y H2 hy => ?_⟩
  obtain ⟨rfl, hy⟩ := hy
  have e2 := hy xs h1
  rw [e1] at e2; cases e2
  exact ⟨Ext.refl _ _, S, .of r⟩
def noChk : Sto → Bool := fun _ => true
/-- a list or a tuple walked -/
def fSrc (f : Fn Dv) : Fn Src := fun env s => (f env s).bind fun d s1 => match d with
  | .tup ds => .ok (ds, noChk) s1
  | .ls ds => .ok (ds, noChk) s1
  | .loc n => match s1[n]? with | some (.lst ds) => .ok (ds, isLst n ds) s1 | _ => .bad
  | _ => .bad
def rngD (lo : Int) (n : Nat) : List Dv := (List.range n).map fun (i : Nat) => Dv.int (lo + (i : Int))
theorem rngD_len (lo : Int) (n : Nat) : (rngD lo n).length = n := by simp [rngD]
theorem rngD_get {lo : Int} {n i : Nat} {d : Dv} (h : (rngD lo n)[i]? = some d) : i < n ∧ d = .int (lo + i) := by
  have hl : i < n := by have := (List.getElem?_eq_some_iff.mp h).1; simpa [rngD] using this
  refine ⟨hl, ?_⟩
  simp [rngD, hl] at h
  exact h.symm
theorem walk_rng {K : PySem.W.Frag} {q : Bool} {B : Lo} {H : Hp} {chk : Sto → Bool} (lo : Int) (n : Nat) : WalkZ K q (Itr lo n) B H (rngD lo n, chk) := by
  intro B1 H1 s1 x S hc
  refine ⟨fun i d e => ?_, Nat.le_of_eq (rngD_len lo n).symm⟩
  obtain ⟨hl, rfl⟩ := rngD_get e
  refine ⟨hl, fun y H2 hy => ?_⟩
  obtain ⟨rfl, rfl⟩ := hy
  exact ⟨Ext.refl _ _, S, .of (.int _)⟩
def inRng (i : Int) : Bool := decide (-(2 ^ 62) ≤ i) && decide (i < 2 ^ 62)
theorem inRng_ok {i : Int} (h : inRng i = true) : -(2 ^ 62) ≤ i ∧ i < 2 ^ 62 := by
  unfold inRng at h
  simpa only [Bool.and_eq_true, decide_eq_true_eq] using h
def fRng1 (f : Fn (List Dv)) : Fn Src := fun env s => (f env s).bind fun ds s1 => match ds with | [.int j] => Rs.iff (inRng j) (.ok (rngD 0 j.toNat, noChk) s1) | _ => .bad
def fRng2 (f : Fn (List Dv)) : Fn Src := fun env s => (f env s).bind fun ds s1 => match ds with | [.int i, .int j] => Rs.iff (inRng i && inRng j) (.ok (rngD i (j - i).toNat, noChk) s1) | _ => .bad
section
variable {G : Gz} {bs : List Str} {k : Nat} {X : Cx} {N : List Str} {nm : List (Str × NameKind)} {ow : Str → Bool} {a b e tg : Expr} {fa fb fc : Fn Dv} {fs : Fn (List Dv)} {pos p : Pos} {q : Bool}
theorem zi_seq (he : ZE X e fa) : ZI X q tg e (fSrc fa) := by
  refine pi_mono (pi_alt (pi_list (tg := tg) he) (pi_tup (tg := tg) he)) fun σ H R h => ?_
  obtain ⟨B, env, s, src, s', hE, hS, hf, hQ⟩ := h
  obtain ⟨d, s1, h1, hf⟩ := Rs.bind_ok hf
  cases d with
  | tup ds =>
    cases hf
    right
    refine ⟨B, env, s, _, _, hE, hS, h1, fun B1 H1 v x1 e1 S1 r1 => ?_⟩
    cases r1 with
    | tup h2 h3 => exact ⟨_, rfl, ⟨_, h2.sq⟩, hQ B1 H1 _ x1 e1 S1 (walk_tup h2 h3)⟩
  | ls ds =>
    cases hf
    left
    refine ⟨B, env, s, _, _, hE, hS, h1, fun B1 H1 v x1 e1 S1 r1 => ?_⟩
    cases r1 with
    | ls h2 h3 => exact ⟨_, rfl, ⟨_, h2.sq⟩, hQ B1 H1 _ x1 e1 S1 (walk_list fun B2 H2 s2 x2 S2 _ => ⟨_, (x2.mo.ls h2).sq, h3.mono x2.mo⟩)⟩
  | loc n =>
    left
    cases e : s1[n]? with
    | none => simp [e] at hf
    | some o =>
      cases o with
      | lst ds =>
        simp [e] at hf
        obtain ⟨rfl, rfl⟩ := hf
        refine ⟨B, env, s, _, _, hE, hS, h1, fun B1 H1 v x1 e1 S1 r1 => ?_⟩
        cases r1 with
        | loc h2 =>
          obtain ⟨o, ho, ro⟩ := S1.at h2
          rw [e] at ho; cases ho
          obtain ⟨xs, h3, h4⟩ := ro
          refine ⟨_, rfl, ⟨_, .of h3⟩, hQ B1 H1 _ x1 e1 S1 (walk_list fun B2 H2 s2 x2 S2 hc => ?_)⟩
          have h5 := isLst_at hc
          obtain ⟨o, ho, ro⟩ := S2.at (pre_get x2.mo.pre h2)
          rw [h5] at ho; cases ho
          obtain ⟨ys, h6, h7⟩ := ro
          exact ⟨ys, .of h6, h7⟩
      | _ => simp [e] at hf
  | _ => cases hf
theorem zi_rng1 (c : Cz G bs k X N nm ow) (ha : ZA X [a] fs) (hb : bOk bs nm "range" = true := by decide +kernel) (hs : starEach [a] X.env = [(false, eval a X.env)] := by rfl) : ZI X q tg (.Call (.Name "range" p) [a] [] pos) (fRng1 fs) := by
  obtain ⟨hg, hm⟩ := c.blt hb
  refine pi_mono (pi_range1 hg hm ha hs) fun σ H R h => ?_
  obtain ⟨B, env, s, src, s', hE, hS, hf, hQ⟩ := h
  obtain ⟨ds, s1, h1, hf⟩ := Rs.bind_ok hf
  split at hf
  · obtain ⟨hj, hf⟩ := Rs.iff_ok hf
    cases hf
    obtain ⟨j1, j2⟩ := inRng_ok hj
    refine ⟨B, env, s, _, _, hE, hS, h1, fun B1 H1 v x1 e1 S1 r1 => ?_⟩
    cases r1 with
    | cons r rr =>
      cases r; cases rr
      exact ⟨_, rfl, j1, j2, hQ B1 H1 _ x1 e1 S1 (walk_rng _ _)⟩
  · cases hf
end

/-! ### for -/
def loopZ (chk : Sto → Bool) (g : Dv → Fn En) (body : Fn Ct) : List Dv → Fn Ct
  | [], env, s => Rs.iff (chk s) (.ok (.next env) s)
  | d :: ds, env, s => Rs.iff (chk s) ((g d env s).bind fun env1 s1 => (body env1 s1).bind fun c s2 => match c with
    | .next e => loopZ chk g body ds e s2
    | .cont e => loopZ chk g body ds e s2
    | .brk e => .ok (.next e) s2
    | .ret r => .ok (.ret r) s2)
def fFor (fi : Fn Src) (g : Dv → Fn En) (body : Fn Ct) : Fn Ct := fun env s => (fi env s).bind fun src s1 => loopZ src.2 g body src.1 env s1
section
variable {G : Gz} {bs : List Str} {k : Nat} {X : Cx} {N : List Str} {nm : List (Str × NameKind)} {ow : Str → Bool} {a b e tg iter : Expr} {fa fb fc : Fn Dv} {pos p : Pos} {q : Bool} {body : List Stmt} {fi : Fn Src} {g : Dv → Fn En} {fb : Fn Ct} {is : List Nat}
theorem z_for (c : Cz G bs k X N nm ow) (hi : ZI X q tg iter fi) (hg : ZG X q is tg g) (hb : ZB X body fb) (hs : ∀ x, foldedSetIterable iter X.env x = pure x := by intro _; rfl) : ZS X (.For tg iter body [] pos) (fFor fi g fb) := by
  refine ps_mono (ps_for c.po c.calm hi hg hb hs) fun D σ H h => ?_
  obtain ⟨B, env, s, ct, s', hE, hS, hf, hQ⟩ := h
  obtain ⟨src, s1, h1, hf⟩ := Rs.bind_ok hf
  refine ⟨B, env, s, _, _, hE, hS, h1, fun B1 H1 J x1 e1 S1 W1 => ?_⟩
  have hQ1 := hQ.ahead x1 e1
  refine ⟨fun i m σ3 H3 => m = src.1.length - i ∧ i ≤ src.1.length ∧ ∃ B3 env3 s3, Ext B1 H1 B3 H3 ∧ B3.hid = B1.hid ∧ Sim X.K B3 H3 s3 ∧ RpE X.K B3 H3 env3 σ3 ∧ loopZ src.2 g fb (src.1.drop i) env3 s3 = .ok ct s',
    ⟨_, rfl, Nat.zero_le _, B1, env, s1, Ext.refl _ _, rfl, S1, hE.mono x1.mo, hf⟩, fun i m σ3 H3 w => ?_⟩
  obtain ⟨rfl, hi, B3, env3, s3, x3, e3, S3, E3, hl⟩ := w
  by_cases hlt : i < src.1.length
  · have hd : src.1.drop i = src.1[i] :: src.1.drop (i + 1) := List.drop_eq_getElem_cons hlt
    rw [hd] at hl
    obtain ⟨hc, hl⟩ := Rs.iff_ok hl
    obtain ⟨hgo, _⟩ := W1 B3 H3 s3 x3 S3 hc
    obtain ⟨go, yl⟩ := hgo i src.1[i] (List.getElem?_eq_getElem hlt)
    obtain ⟨env4, s4, h4, hl⟩ := Rs.bind_ok hl
    obtain ⟨c5, s5, h5, hl⟩ := Rs.bind_ok hl
    right
    refine ⟨go, fun σ' H' => ∃ B5 env5, Ext B1 H1 B5 H' ∧ B5.hid = B1.hid ∧ Sim X.K B5 H' s5 ∧ RpE X.K B5 H' env5 σ' ∧ loopZ src.2 g fb (src.1.drop (i + 1)) env5 s5 = .ok ct s', fun σ' H' hN => ?_, fun x H' hy => ?_⟩
    · obtain ⟨B5, env5, x5, e5, S5, E5, hl5⟩ := hN
      exact ⟨_, by omega, rfl, hlt, B5, env5, s5, x5, e5, S5, E5, hl5⟩
    · obtain ⟨x6, S6, r6⟩ := yl x H' hy
      refine ⟨B3, env3, s3, _, _, _, E3.mono x6.mo, S6, r6, h4, fun B7 H7 σ7 x7 e7 S7 E7 o7 => ?_⟩
      refine ⟨B7, env4, s4, c5, s5, E7, S7, h5, ?_⟩
      have xx : Ext B1 H1 B7 H7 := x3.trans (x6.trans x7)
      have ee : B7.hid = B1.hid := e7.trans e3
      cases c5 with
      | next env5 => exact fun B8 H8 σ8 x8 e8 S8 E8 => ⟨B8, env5, xx.trans x8, e8.trans ee, S8, E8, hl⟩
      | cont env5 => exact fun B8 H8 σ8 x8 e8 S8 E8 => ⟨B8, env5, xx.trans x8, e8.trans ee, S8, E8, hl⟩
      | brk env5 =>
        cases hl
        exact fun B8 H8 σ8 x8 e8 S8 E8 => hQ1 B8 H8 σ8 (xx.trans x8) (e8.trans ee) S8 E8
      | ret d =>
        cases hl
        exact fun B8 H8 v x8 e8 S8 r8 => hQ1 B8 H8 v (xx.trans x8) (e8.trans ee) S8 r8
  · have hi2 : i = src.1.length := by omega
    rw [List.drop_eq_nil_of_le (by omega)] at hl
    obtain ⟨hc, hl⟩ := Rs.iff_ok hl
    cases hl
    left
    obtain ⟨_, hst⟩ := W1 B3 H3 _ x3 S3 hc
    exact ⟨by rw [hi2]; exact hst, hQ1 B3 H3 σ3 x3 e3 S3 E3⟩
end

/-! ### while -/
def whileZ (t : Fn Bool) (body : Fn Ct) : Nat → Fn Ct
  | 0, _, _ => .bad
  | n + 1, env, s => (t env s).bind fun b s1 => if b = true then (body env s1).bind fun c s2 => match c with
      | .next e => whileZ t body n e s2
      | .cont e => whileZ t body n e s2
      | .brk e => .ok (.next e) s2
      | .ret r => .ok (.ret r) s2
    else .ok (.next env) s1
def fWhile (n : Nat) (t : Fn Bool) (body : Fn Ct) : Fn Ct := whileZ t body n
section
variable {G : Gz} {bs : List Str} {k : Nat} {X : Cx} {N : List Str} {nm : List (Str × NameKind)} {ow : Str → Bool} {a b e tg iter : Expr} {pos p : Pos} {q : Bool} {body : List Stmt} {tc : Fn Bool} {fb : Fn Ct} {is : List Nat}
end
end Z

namespace Z
open PySem PySem.Spec PyProof.Rows L2

/-! ### a comprehension's block -/
def relN (nm names : List (Str × NameKind)) : List (Str × NameKind) := names.map fun (n, k) => if (k == .free && nm.lookup n == some .cell) = true then (n, .cell) else (n, k)
def ownN (names : List (Str × NameKind)) : Str → Bool := fun x => names.lookup x == some .cell
def scD (nm : List (Str × NameKind)) : Scope := { kind := .function, names := nm, isGenerator := false, isCoroutine := false }
def blkZ (N : List Str) (nm : List (Str × NameKind)) (scope : Scope) (own : List (Str × Nat)) : Bool := blkC N (scD nm) scope own
section
variable {G : Gz} {bs : List Str} {k : Nat} {X : Cx} {N : List Str} {nm : List (Str × NameKind)} {ow : Str → Bool}
theorem Cz.blkOk (c : Cz G bs k X N nm ow) {scope : Scope} {own : List (Str × Nat)} (h : blkZ N nm scope own = true) : BlkOk X.N X.env.scope scope own := by
  obtain ⟨h1, h2, h3, h4, h5⟩ := blkOk_by h
  rw [c.hN]
  refine ⟨h1, h2, h3, fun y hy e => ?_, h5⟩
  rw [c.nm]
  exact h4 y hy e
theorem Cz.blk (c : Cz G bs k X N nm ow) {scope : Scope} (hk : scope.kind = .function) (s : Shared) (H : Hp) (C : Addr) (cl : List (Str × Addr)) (fp : List Addr) :
    Cz G bs k (X.blk s H scope (compEnvC scope cl C X.env) fp) N (relN nm scope.names) (ownN scope.names) where
  hN := c.hN
  nd := c.nd
  kd := hk
  nm := by
    show (relabel scope X.env).names = _
    unfold relabel relN
    simp only
    refine List.map_congr_left fun y hy => ?_
    have e : (X.env.scope.kind == ScopeKind.function) = true := by rw [c.kd]; rfl
    have e2 : X.env.kindOf y.1 = nm.lookup y.1 := by show X.env.scope.names.lookup _ = _; rw [c.nm]
    simp only [e, e2, Bool.and_true]
  ow := rfl
  calm := c.calm
  rm := c.rm
  gd := c.gd
  bl := c.bl
  gp := c.gp
  gw := c.gw
  gK := c.gK
  gm := c.gm
  gb := c.gb
  po := PassesOwn.never
end
def wipeZ (env : En) : List Nat → En
  | [] => env
  | v :: vs => (wipeZ env vs).set v none
theorem RpE.wipe {K : PySem.W.Frag} {B : Lo} {H : Hp} {env : En} {σ : L2.St} (h : RpE K B H env σ) : ∀ vs : List Nat, RpE K B H (wipeZ env vs) (wipe σ vs)
  | [] => h
  | v :: vs => (h.wipe vs).unset v
theorem wipe_get {σ : L2.St} {j : Nat} : ∀ {vs : List Nat}, (wipe σ vs)[j]? = if j ∈ vs then (if j < σ.length then some none else none) else σ[j]?
  | [] => by simp [L2.wipe]
  | v :: vs => by
    have ih := wipe_get (σ := σ) (j := j) (vs := vs)
    show ((wipe σ vs).set v none)[j]? = _
    by_cases hj : v = j
    · subst hj
      by_cases hl : v < σ.length
      · rw [List.getElem?_set_self (by rw [wipe_length]; exact hl)]
        simp [hl]
      · rw [List.getElem?_eq_none (by rw [List.length_set, wipe_length]; omega)]
        simp [hl]
    · rw [List.getElem?_set_ne hj, ih]
      simp only [List.mem_cons, show ¬ j = v from fun e => hj e.symm, false_or]
theorem wipe_only {σ σ2 : L2.St} {is vs : List Nat} (h : Only1 is (wipe σ vs) σ2) (hs : ∀ i ∈ is, i ∈ vs) : wipe σ2 vs = wipe σ vs := by
  have hl : σ2.length = σ.length := by rw [h.1, wipe_length]
  apply List.ext_getElem?
  intro j
  rw [wipe_get, wipe_get]
  by_cases hj : j ∈ vs
  · simp [hj, hl]
  · rw [if_neg hj, if_neg hj, h.2 j (fun z => hj (hs j z)), wipe_get, if_neg hj]

/-! ### what lies aside is changed -/
section
variable {K : PySem.W.Frag} {B : Lo} {H : Hp} {s : Sto}
theorem Mo.rehid (S : Sim K B H s) {D : Addr} {o : HO} (h : D ∈ B.hid) : Mo B H B (upd H D o) := by
  obtain ⟨h1, v, h2, hm⟩ := S.hid D h
  refine ⟨List.prefix_refl _, fun b o e _ hb _ => ?_, fun b o e => ?_, fun b o u e => ?_, fun _ z => z.elim .inl fun z => .inr (.inl z), fun b ps e => ⟨ps, ?_⟩⟩
  · rw [upd_ne (fun z => hb (by rw [z]; exact h))]; exact e
  · rw [upd_ne (fun z => by rw [z, h2] at e; cases e; exact hm)]; exact e
  · rw [upd_ne (fun z => by rw [z, h2] at e; cases e; exact hm)]; exact e
  · rw [upd_ne (fun z => by rw [z, h2] at e; cases e; exact hm)]; exact e
theorem Sim.rehid (S : Sim K B H s) {D : Addr} {o : HO} (h : D ∈ B.hid) (ho : MutH (some o) := by trivial) : Sim K B (upd H D o) s := by
  obtain ⟨h1, v, h2, hm⟩ := S.hid D h
  refine ⟨S.nd, S.len, fun n a u e1 e2 => (S.obs n a u e1 e2).mono (Mo.rehid S h) (upd_ne fun z => h1 (by rw [← z]; exact List.mem_of_getElem? e1)), fun b hb => ?_, fun x hx c P q => (S.tabs x hx c P q).mono (Mo.rehid S h) (upd_ne ((S.tabs x hx c P q).ne h2 hm))⟩
  obtain ⟨h3, zs, h4, h5⟩ := S.hid b hb
  refine ⟨h3, ?_⟩
  by_cases hd : b = D
  · rw [hd]; exact ⟨o, upd_same, ho⟩
  · exact ⟨zs, (upd_ne hd).trans h4, h5⟩
end

/-! ### [elt for target in iter if ..] -/
def lcZ (chk : Sto → Bool) (own : List Nat) (g : Dv → Fn En) (tt : Fn Bool) (te : Fn Dv) : List Dv → Fn (List Dv)
  | [], _, s => Rs.iff (chk s) (.ok [] s)
  | d :: ds, env, s => Rs.iff (chk s) ((g d (wipeZ env own) s).bind fun env1 s1 => (tt env1 s1).bind fun b s2 => if b = true then (te env1 s2).bind fun y s3 => (lcZ chk own g tt te ds env s3).bind fun ys s4 => .ok (y :: ys) s4
      else lcZ chk own g tt te ds env s2)
def fLc (fi : Fn Src) (own : List Nat) (g : Dv → Fn En) (tt : Fn Bool) (te : Fn Dv) : Fn (List Dv) := fun env s => (fi env s).bind fun src s1 => Rs.iff (decide (src.1.length < 16777216)) (lcZ src.2 own g tt te src.1 env s1)
def fYes : Fn Bool := fun _ s => .ok true s
abbrev ZTs (X : Cx) (ifs : List Expr) (f : Fn Bool) : Prop := PTs X ifs (tOfT X.K f)
theorem pts_mono {X : Cx} {e : List Expr} {t t' : TT} (h : PTs X e t) (hh : ∀ σ H Q, t' σ H Q → t σ H Q) : PTs X e t' := ⟨fun pins s σ H Q I q => h.run pins s σ H Q I (hh _ _ _ q)⟩
theorem zts_nil {X : Cx} : ZTs X [] fYes := pts_mono pts_nil fun σ H Q q => by
  obtain ⟨B, env, s, b, s', hE, hS, hf, hQ⟩ := q
  cases hf
  exact hQ B H (Ext.refl _ _) rfl hS
theorem zts_one {X : Cx} {c : Expr} {f : Fn Bool} (h : ZT X c f) : ZTs X [c] f := pts_one h
theorem lc_to {K : PySem.W.Frag} {q : Bool} {fi : Fn Src} {is own : List Nat} {g : Dv → Fn En} {tt : Fn Bool} {te : Fn Dv} (his : ∀ i ∈ is, i ∈ own) :
    ∀ σ H Q, tOfL K (fLc fi own g tt te) σ H Q → tLc (tOfI K q fi) (tOfG K q is g) (tOfT K tt) (tOf K te) own σ H Q := fun σ H Q h => by
  obtain ⟨B, env, s, rs, s', hE, hS, hf, hQ⟩ := h
  obtain ⟨src, s1, h1, hf⟩ := Rs.bind_ok hf
  obtain ⟨hz, hf⟩ := Rs.iff_ok hf
  have hz : src.1.length < 16777216 := of_decide_eq_true hz
  refine ⟨B, env, s, _, _, hE, hS, h1, fun B1 H1 J x1 e1 S1 W1 D hD => ?_⟩
  have nD : D ∉ B1.hid := S1.freeH hD
  have nL : D ∉ B1.locs := S1.free hD
  have D0 : H D = none := x1.was_none hD fun z => nL (x1.mo.pre.subset z)
  refine ⟨fun i m H3 => m = src.1.length - i ∧ i ≤ src.1.length ∧ ∃ (L3 : List Addr) (s3 : Sto) (acc rest : List Dv) (accV : List V), Ext B1 H1 ⟨L3, D :: B1.hid⟩ H3 ∧ Sim K ⟨L3, D :: B1.hid⟩ H3 s3 ∧ RpE K ⟨L3, D :: B1.hid⟩ H3 env σ ∧
      H3 D = some (.lst accV) ∧ Rps K ⟨L3, D :: B1.hid⟩ H3 acc accV ∧ acc.length ≤ i ∧ lcZ src.2 own g tt te (src.1.drop i) env s3 = .ok rest s' ∧ acc ++ rest = rs,
    ⟨_, rfl, Nat.zero_le _, B1.locs, s1, [], rs, [], Ext.aside hD, S1.aside hD, hE.mono (x1.mo.trans (Mo.aside hD)), upd_same, .nil, Nat.le_refl _, hf, rfl⟩, fun i m H3 w => ?_⟩
  obtain ⟨rfl, hi, L3, s3, acc, rest, accV, x3, S3, E3, hd, ra, hal, hl, hr⟩ := w
  by_cases hlt : i < src.1.length
  · have hdr : src.1.drop i = src.1[i] :: src.1.drop (i + 1) := List.drop_eq_getElem_cons hlt
    rw [hdr] at hl
    obtain ⟨hc, hl⟩ := Rs.iff_ok hl
    obtain ⟨hgo, _⟩ := W1 _ H3 s3 x3 S3 hc
    obtain ⟨go, yl⟩ := hgo i src.1[i] (List.getElem?_eq_getElem hlt)
    obtain ⟨env4, s4, h4, hl⟩ := Rs.bind_ok hl
    obtain ⟨b5, s5, h5, hl⟩ := Rs.bind_ok hl
    right
    refine ⟨go, fun H' => ∃ (L5 : List Addr) (s6 : Sto) (acc rest : List Dv) (accV : List V), Ext B1 H1 ⟨L5, D :: B1.hid⟩ H' ∧ Sim K ⟨L5, D :: B1.hid⟩ H' s6 ∧ RpE K ⟨L5, D :: B1.hid⟩ H' env σ ∧
      H' D = some (.lst accV) ∧ Rps K ⟨L5, D :: B1.hid⟩ H' acc accV ∧ acc.length ≤ i + 1 ∧ lcZ src.2 own g tt te (src.1.drop (i + 1)) env s6 = .ok rest s' ∧ acc ++ rest = rs, fun H' hN => ?_, fun x H' hy => ?_⟩
    · obtain ⟨L5, s6, acc, rest, accV, hh⟩ := hN
      exact ⟨_, by omega, rfl, hlt, L5, s6, acc, rest, accV, hh⟩
    · obtain ⟨x6, S6, r6⟩ := yl x H' hy
      have d6 : H' D = some (.lst accV) := x6.keepH D _ hd List.mem_cons_self
      refine ⟨_, wipeZ env own, s3, _, _, _, (E3.mono x6.mo).wipe own, S6, r6, h4, fun B7 H7 σ7 x7 e7 S7 E7 o7 => ⟨wipe_only o7 his, ?_⟩⟩
      refine ⟨B7, env4, s4, b5, s5, E7, S7, h5, fun B8 H8 x8 e8 S8 => ?_⟩
      have hh8 : B8.hid = D :: B1.hid := e8.trans e7
      obtain ⟨L8, h8⟩ := B8
      simp only at hh8
      subst hh8
      have xx : Ext B1 H1 ⟨L8, D :: B1.hid⟩ H8 := x3.trans (x6.trans (x7.trans x8))
      have mm : Mo ⟨L3, D :: B1.hid⟩ H3 ⟨L8, D :: B1.hid⟩ H8 := (x6.trans (x7.trans x8)).mo
      have d8 : H8 D = some (.lst accV) := (x7.trans x8).keepH D _ d6 List.mem_cons_self
      split at hl
      · rename_i hb
        show if b5 = true then _ else _
        rw [if_pos hb]
        obtain ⟨y, s9, h9, hl⟩ := Rs.bind_ok hl
        obtain ⟨ys, s10, h10, hl⟩ := Rs.bind_ok hl
        cases hl
        refine ⟨⟨L8, D :: B1.hid⟩, env4, s5, _, _, E7.mono x8.mo, S8, h9, fun B9 H9 v x9 e9 S9 r9 => ?_⟩
        obtain ⟨L9, hid9⟩ := B9
        simp only at e9
        subst e9
        have d9 : H9 D = some (.lst accV) := x9.keepH D _ d8 List.mem_cons_self
        have ra9 := (ra.mono mm).mono x9.mo
        have hm9 : D ∈ (⟨L9, D :: B1.hid⟩ : Lo).hid := List.mem_cons_self
        have mr := Mo.rehid (o := .lst (accV ++ [v])) S9 hm9
        refine ⟨accV, d9, ?_, L9, s9, acc ++ [y], ys, accV ++ [v], (xx.trans x9).rewrite hD, S9.rehid hm9, (E3.mono (mm.trans x9.mo)).mono mr, upd_same, (ra9.append (.cons r9 .nil)).mono mr, ?_, h10, ?_⟩
        · rw [← ra9.length, sizeLine_eq]; omega
        · rw [List.length_append, List.length_singleton]; omega
        · rw [← hr, List.append_assoc]; rfl
      · rename_i hb
        show if b5 = true then _ else _
        rw [if_neg hb]
        exact ⟨L8, s5, acc, rest, accV, xx, S8, E3.mono mm, d8, ra.mono mm, by omega, hl, hr⟩
  · have hi2 : i = src.1.length := by omega
    rw [List.drop_eq_nil_of_le (by omega)] at hl
    obtain ⟨hc, hl⟩ := Rs.iff_ok hl
    cases hl
    left
    obtain ⟨_, hst⟩ := W1 _ H3 _ x3 S3 hc
    rw [List.append_nil] at hr
    subst hr
    exact ⟨by rw [hi2]; exact hst, hQ ⟨L3, B1.hid⟩ H3 D accV (x1.trans x3) e1 S3 nD D0 hd ra⟩
section
variable {G : Gz} {bs : List Str} {k : Nat} {X : Cx} {N : List Str} {nm : List (Str × NameKind)} {ow : Str → Bool} {elt tg iter : Expr} {ifs : List Expr} {scope : Scope} {own : List (Str × Nat)} {pos : Pos} {q : Bool} {fi : Fn Src} {is : List Nat} {g : Dv → Fn En} {tt : Fn Bool} {te : Fn Dv}
theorem z_lc (c : Cz G bs k X N nm ow) (own : List (Str × Nat)) (hi : ZI X q tg iter fi)
    (hin : ∀ X' : Cx, Cz G bs k X' N (relN nm scope.names) (ownN scope.names) → ZG X' q is tg g ∧ ZTs X' ifs tt ∧ ZE X' elt te)
    (ok : blkZ N nm scope own = true := by decide +kernel) (hk : scope.kind = .function := by rfl) (his : is.all (fun i => (own.map (·.2)).contains i) = true := by decide +kernel) (hs : ∀ x, foldedSetIterable iter X.env x = pure x := by intro _; rfl) :
    ZL X (.ListComp elt [⟨tg, iter, ifs, 0⟩] scope pos) (fLc fi (own.map (·.2)) g tt te) := by
  have nd : X.N.Nodup := by rw [c.hN]; exact c.nd
  have hcs := fun s H C cl fp => hin _ (c.blk hk s H C cl fp)
  refine pe_mono (pe_lc (own := own) c.calm nd hi (c.blkOk ok) (fun s H C cl fp => (hcs s H C cl fp).1) (fun s H C cl fp => (hcs s H C cl fp).2.1) (fun s H C cl fp => (hcs s H C cl fp).2.2) hs) (lc_to fun i hi => ?_)
  have := List.all_eq_true.mp his i hi
  exact List.contains_iff_mem.mp this
end
end Z

namespace Z
open PySem PySem.Spec PyProof.Rows L2

/-! ### what a def leaves behind it -/
mutual
/-- no place of the store from b on is named in it -/
def below (b : Nat) : Dv → Bool
  | .tup ds => belows b ds
  | .ls ds => belows b ds
  | .loc n => decide (n < b)
  | .xn _ _ _ fs => belows b fs
  | _ => true
def belows (b : Nat) : List Dv → Bool
  | [] => true
  | d :: r => below b d && belows b r
end
def belowO (b : Nat) : Ob → Bool
  | .lst ds => belows b ds
  | .dk kvs => kvs.all fun p => below b p.2
  | .dt kvs => kvs.all fun p => below b p.2
section
variable {K : PySem.W.Frag} {B' : Lo} {H : Hp} {L h : List Addr} {b : Nat}
mutual
theorem Rp.cut (hp : L <+: B'.locs) (hb : L.length = b) (hh : ∀ a ∈ h, a ∈ B'.hid) : ∀ {d : Dv} {v : V}, Rp K B' H d v → below b d = true → Rp K ⟨L, h⟩ H d v
  | _, _, .non, _ => .non
  | _, _, .bl b, _ => .bl b
  | _, _, .int b, _ => .int b
  | _, _, .str b, _ => .str b
  | _, _, .tup h1 h2, e => .tup h1 (Rps.cut hp hb hh h2 (by simpa [below] using e))
  | _, _, .ls h1 h2, e => by
    refine .ls ?_ (Rps.cut hp hb hh h2 (by simpa [below] using e))
    rcases h1 with ⟨q1, q2, q3⟩ | q | q
    · exact .inl ⟨q1, fun z => q2 (hp.subset z), fun z => q3 (hh _ z)⟩
    · exact .inr (.inl q)
    · exact .inr (.inr q)
  | _, _, @Rp.loc _ _ _ n a h1, e => .loc (by
    have hl : n < b := by simpa [below] using e
    obtain ⟨t, ht⟩ := hp
    rw [← ht, List.getElem?_append_left (by rw [hb]; exact hl)] at h1
    exact h1)
  | _, _, .xn h n m l r, e => .xn h (fun z => n (hp.subset z)) (fun z => m (hh _ z)) l (Rps.cut hp hb hh r (by simpa [below] using e))
theorem Rps.cut (hp : L <+: B'.locs) (hb : L.length = b) (hh : ∀ a ∈ h, a ∈ B'.hid) : ∀ {d : List Dv} {v : List V}, Rps K B' H d v → belows b d = true → Rps K ⟨L, h⟩ H d v
  | _, _, .nil, _ => .nil
  | _, _, @Rps.cons _ _ _ d _ ds _ h1 h2, e => by
    have e' : below b d = true ∧ belows b ds = true := by simpa [belows] using e
    exact .cons (Rp.cut hp hb hh h1 e'.1) (Rps.cut hp hb hh h2 e'.2)
end
theorem paired_cut {κ : Type} (hp : L <+: B'.locs) (hb : L.length = b) (hh : ∀ a ∈ h, a ∈ B'.hid) : ∀ {kvs : List (κ × Dv)} {ks : List (κ × V)}, Paired (fun (p : κ × Dv) (q : κ × V) => p.1 = q.1 ∧ Rp K B' H p.2 q.2) kvs ks → (kvs.all fun p => below b p.2) = true →
    Paired (fun (p : κ × Dv) (q : κ × V) => p.1 = q.1 ∧ Rp K ⟨L, h⟩ H p.2 q.2) kvs ks
  | _, _, .nil, _ => .nil
  | _, _, .cons r t, e => by
    rw [List.all_cons, Bool.and_eq_true] at e
    exact .cons ⟨r.1, r.2.cut hp hb hh e.1⟩ (paired_cut hp hb hh t e.2)
theorem RpO.cut (hp : L <+: B'.locs) (hb : L.length = b) (hh : ∀ a ∈ h, a ∈ B'.hid) {a : Addr} {o : Ob} (r : RpO K B' H a o) (e : belowO b o = true) : RpO K ⟨L, h⟩ H a o := by
  cases o with
  | lst ds => obtain ⟨xs, h1, h2⟩ := r; exact ⟨xs, h1, h2.cut hp hb hh e⟩
  | dk kvs => obtain ⟨xs, h1, h2⟩ := r; exact ⟨xs, h1, paired_cut hp hb hh h2 e⟩
  | dt kvs => obtain ⟨xs, h1, h2⟩ := r; exact ⟨xs, h1, paired_cut hp hb hh h2 e⟩
end
def keepsZ (b : Nat) (s : Sto) : Bool := (s.take b).all (belowO b)
def gcZ (b : Nat) (d : Dv) (s : Sto) : Rs Dv :=
  if (below b d && keepsZ b s) = true then .ok d (s.take b)
  else match d with
    | .loc n => match s[n]? with
      | some (.lst ds) => if (decide (b ≤ n) && belows b ds && keepsZ b s) = true then .ok (.ls ds) (s.take b) else .ok d s
      | _ => .ok d s
    | _ => .ok d s
/-- what the caller wants, ahead of the cleaning -/
theorem gc_ok {K : PySem.W.Frag} {B : Lo} {H : Hp} {s s1 s2 : Sto} {d e : Dv} {Q : VK} (S : Sim K B H s) (hg : gcZ s.length d s1 = .ok e s2) (hQ : PostZ K B H s2 e Q) : PostZ K B H s1 d Q := by
  intro B' H' v x eh S' r
  have hlen : B.locs.length = s.length := S.len
  have cut : keepsZ s.length s1 = true → ∀ {f : Dv} {u : V}, (∃ L : Lo, L = ⟨B.locs, B'.hid⟩ ∧ Rp K L H' f u) → PostZ K B H (s1.take s.length) f Q → Q u H' := fun hk {f u} ⟨L, eL, ru⟩ hq => by
    subst eL
    refine hq ⟨B.locs, B'.hid⟩ H' u ⟨⟨List.prefix_refl _, x.mo.keep, x.mo.tups, x.mo.frzs, fun b z => x.mo.new b (z.elim (fun z => .inl (x.mo.pre.subset z)) .inr), x.mo.tbls⟩, x.keepH, x.sub, fun b z => .inl z⟩ eh ?_ ru
    refine ⟨S.nd, ?_, fun n a o e1 e2 => ?_, fun b hb => ?_, fun y hy c P q => (S'.tabs y hy c P q).cut x.mo.pre⟩
    · rw [List.length_take, ← S'.len]
      have := x.mo.pre.length_le
      show B.locs.length = _
      omega
    · have hn : n < s.length := by rw [← hlen]; exact (List.getElem?_eq_some_iff.mp e1).1
      rw [List.getElem?_take_of_lt hn] at e2
      have hb : belowO s.length o = true := by
        refine List.all_eq_true.mp hk o (List.mem_of_getElem? (i := n) ?_)
        rw [List.getElem?_take_of_lt hn]; exact e2
      exact (S'.obs n a o (pre_get x.mo.pre e1) e2).cut x.mo.pre hlen (fun _ z => z) hb
    · obtain ⟨h1, h2⟩ := S'.hid b hb
      exact ⟨fun z => h1 (x.mo.pre.subset z), h2⟩
  unfold gcZ at hg
  split at hg
  · rename_i hc
    rw [Bool.and_eq_true] at hc
    cases hg
    exact cut hc.2 ⟨_, rfl, r.cut x.mo.pre hlen (fun _ z => z) hc.1⟩ hQ
  · split at hg
    · rename_i n _
      split at hg
      · rename_i ds e1
        split at hg
        · rename_i hc
          rw [Bool.and_eq_true, Bool.and_eq_true] at hc
          have hbn : s.length ≤ n := of_decide_eq_true hc.1.1
          cases hg
          cases r with
          | @loc _ a hl =>
            obtain ⟨o, ho, ro⟩ := S'.at hl
            rw [e1] at ho; cases ho
            obtain ⟨xs, h1, h2⟩ := ro
            refine cut hc.2 ⟨_, rfl, .ls (.inl ⟨h1, fun z => ?_, fun z => (S'.hid _ z).1 (List.mem_of_getElem? hl)⟩) (h2.cut x.mo.pre hlen (fun _ z => z) hc.1.2)⟩ hQ
            obtain ⟨m, hm⟩ := List.getElem?_of_mem z
            have hm2 := pre_get x.mo.pre hm
            obtain ⟨q1, q2⟩ := List.getElem?_eq_some_iff.mp hl
            obtain ⟨q3, q4⟩ := List.getElem?_eq_some_iff.mp hm2
            have em : n = m := (List.getElem_inj S'.nd).mp (q2.trans q4.symm)
            have hlt : m < B.locs.length := (List.getElem?_eq_some_iff.mp hm).1
            omega
        · cases hg
          exact hQ B' H' v x eh S' r
      · cases hg
        exact hQ B' H' v x eh S' r
    · cases hg
      exact hQ B' H' v x eh S' r

/-! ### defs -/
def fDef (n m : Nat) (body : Fn Ct) (ds : List Dv) (s : Sto) : Rs Dv :=
  Rs.iff (ds.length == n) ((body (ds.map some ++ List.replicate (m - n) none) s).bind fun c s1 => match c with
    | .next _ => gcZ s.length .non s1
    | .ret d => gcZ s.length d s1
    | _ => .bad)
abbrev Phi := List Dv → Sto → Rs Dv
def spZ (K : PySem.W.Frag) (n : Nat) (φ : Phi) : Sp := fun vs H Q _ => vs.length = n ∧ ∃ B ds s d s', Rps K B H ds vs ∧ Sim K B H s ∧ φ ds s = .ok d s' ∧ PostZ K B H s' d Q
/-- a def at f keeps its promise, wherever no thing's text is being written -/
structure FnZ (G : Gz) (k : Nat) (f : Addr) (fd : FuncData) (ps : List Str) (sp : Sp) : Prop where
  run : ∀ (A : Around) (outer : List Env) (s : Shared) (H : Hp) (args : Args) (us : List Value) (vs : List V) (Q : VK), A.guards = some [] → Room k A → Env0 G.prog G.w G.K G.mg G.base A outer s H → BindsTo s fd args (ps.zip us) → Vals vs us → sp vs H Q E0 →
    codeAny (model G.prog G.w) A (.call (.ref f) args) (CR CX0 outer G.prog G.w H s Q E0) s
theorem FnZ.mono {G : Gz} {j k : Nat} {f : Addr} {fd : FuncData} {ps : List Str} {sp : Sp} (F : FnZ G j f fd ps sp) (h : j ≤ k) : FnZ G k f fd ps sp :=
  ⟨fun A outer s H args us vs Q hg hr => F.run A outer s H args us vs Q hg (hr.mono h)⟩
/-- the def x of the module, asked by its places -/
structure Fz (G : Gz) (k : Nat) (x : Str) (n : Nat) (φ : Phi) : Prop where
  len : ∀ ds s d s', φ ds s = .ok d s' → ds.length = n
  ex : ∃ (f : Addr) (fd : FuncData) (ps : List Str), G.mg x = some (.ref f) ∧ PySem.W.keepIn G.K (.ref f) = true ∧ Binds G.K fd ps [] ∧ ps.length = n ∧ FnZ G k f fd ps (spZ G.K n φ)
theorem Fz.mono {G : Gz} {j k : Nat} {x : Str} {n : Nat} {φ : Phi} (F : Fz G j x n φ) (h : j ≤ k) : Fz G k x n φ := by
  obtain ⟨f, fd, ps, h1, h2, h3, h4, h5⟩ := F.ex
  exact ⟨F.len, f, fd, ps, h1, h2, h3, h4, h5.mono h⟩
theorem start_rp {K : PySem.W.Frag} {B : Lo} {H : Hp} {ds : List Dv} {vs : List V} {N : List Str} (r : Rps K B H ds vs) : RpE K B H (ds.map some ++ List.replicate (N.length - ds.length) none) (start N vs) := by
  have hl := r.length
  refine ⟨by simp [L2.start, hl], fun i d e => ?_⟩
  unfold L2.start
  by_cases hi : i < ds.length
  · rw [List.getElem?_append_left (by simpa using hi), List.getElem?_map] at e
    cases e2 : ds[i]? with
    | none => rw [e2] at e; cases e
    | some d' =>
      rw [e2] at e
      have e3 : d' = d := by simpa using e
      subst e3
      obtain ⟨v, h1, h2⟩ := r.get e2
      refine ⟨v, ?_, h2⟩
      rw [List.getElem?_append_left (by simpa [← hl] using hi), List.getElem?_map, h1]
      rfl
  · rw [List.getElem?_append_right (by simpa using hi), List.getElem?_replicate] at e
    split at e <;> cases e
/-- a def of the text, by its body -/
theorem z_fnQ {G : Gz} {bs : List Str} {k : Nat} {x qual : Str} {st : Stmt} {f : Addr} {fd : FuncData} {N ps : List Str} {nm : List (Str × NameKind)} {body : Fn Ct} (F : Fun G.K x qual st f fd) (S : FnScope N ps (defScope st)) (hnm : (defScope st).names = nm)
    (hbl : ∀ y ∈ bs, G.mg y = none) (hbody : ∀ X : Cx, Cz G bs k X N nm (fun _ => true) → X.stack = X.env :: X.outer → X.env.frame = some X.env.locals → X.env.qual = qual ++ (".<locals>." : Str) → X.env.code = fd.code → ZB X (defBody st) body) : FnZ G (k + 1) f fd ps (spZ G.K ps.length (fDef ps.length N.length body)) := by
  obtain ⟨oc, od, kV, doc, pm, an, cdv, ct, osl, rfl, lk, hcd⟩ := F.ex
  refine ⟨fun A outer s H args us vs Q hgd hr e0 hb r hsp => ?_⟩
  obtain ⟨hvl, B, ds, st0, d, st1, rd, S0, hf, hQ⟩ := hsp
  have KX : G.K.In s.heap := e0.mod.kin.keeps fun b o e => (e0.bs b o e).1
  have lim : s.heap.NoLimit := e0.mod.nolimit.keeps fun b o e => (e0.bs b o e).1
  have hkind : ∀ y ∈ ps.zip us, (defScope st).names.lookup y.1 = some .local ∨ ((defScope st).names.lookup y.1 = some .cell ∧ ((cellsFrom (s.heap.objs.size + 1) (defScope st).names []).lookup y.1).isSome = true) := fun ⟨n, v⟩ hy => by
    rcases S.par n (List.of_mem_zip hy).1 with q | q
    · exact .inl q
    · exact .inr ⟨q, PySem.W.cellsFrom_some _ _ _ (.inl q)⟩
  refine codeAny_call_function hr.depth (KX _ _ lk) rfl S.co S.gen rfl (PySem.W.codeRec_of KX hcd) (hb _ _ _ _ ?_)
  refine wpAny_newFunctionEnv_cells S.kind hkind fun env he s1 x1 => ?_
  subst he
  refine ⟨lim.keeps x1.toInCall.keep, codeAny_func ?_⟩
  obtain ⟨hdl, hf⟩ := Rs.iff_ok hf
  have hdl : ds.length = ps.length := beq_iff_eq.mp hdl
  obtain ⟨c, s2, hbd, hf⟩ := Rs.bind_ok hf
  have I0 := inv_start (CX := CX0) (E := E0) S hr.hd e0 hvl r x1
  have I : Inv (cxOf CX0 G.prog G.w G.K G.mg G.base N qual (defScope st) f cdv A outer s H E0).nox [] (start N vs) H s1 := I0.wish _
  have cz : Cz G bs k (cxOf CX0 G.prog G.w G.K G.mg G.base N qual (defScope st) f cdv A outer s H E0).nox N nm (fun _ => true) :=
    ⟨rfl, S.nd, S.kind, hnm, rfl, rfl, hr.deeper _, hgd, hbl, rfl, rfl, rfl, rfl, rfl, PassesOwn.never⟩
  have hz := (hbody _ cz rfl rfl rfl rfl).run [] s1 (start N vs) H { nx := fun _ H' => Q .non H', rt := Q } I ⟨B, _, st0, c, s2, start_rp (N := N) rd, S0, by rw [hdl]; exact hbd, ?_⟩
  · refine wpAny_mono hz (fun fl s' hs => ?_) fun _ _ z => False.elim z
    have fin : ∀ {σ' : L2.St} {H' : Hp} {v : V} {u : Value}, Inv (cxOf CX0 G.prog G.w G.K G.mg G.base N qual (defScope st) f cdv A outer s H E0).nox [] σ' H' s' → RelV v u → Q v H' → CE outer G.prog G.w H s Q u s' :=
      fun {σ' H' v u} J rv q => ⟨v, H', J.os, J.bare, J.base, J.hok, rv, q⟩
    cases fl with
    | ret u => obtain ⟨v, σ', H', J, rv, q⟩ := hs; exact fin J rv q
    | next => obtain ⟨σ', H', J, q⟩ := hs; exact fin (v := V.non) (u := Value.none) J rfl q
    | brk => obtain ⟨_, _, _, q⟩ := hs; exact False.elim q
    | cont => obtain ⟨_, _, _, q⟩ := hs; exact False.elim q
  · cases c with
    | next env => exact fun B' H' σ' x e S' _ => gc_ok S0 hf hQ B' H' .non x e S' .non
    | ret d' => exact fun B' H' v x e S' r => gc_ok S0 hf hQ B' H' v x e S' r
    | brk _ => cases hf
    | cont _ => cases hf
theorem z_fnT {G : Gz} {bs : List Str} {k : Nat} {x qual : Str} {st : Stmt} {f : Addr} {fd : FuncData} {N ps : List Str} {nm : List (Str × NameKind)} {body : Fn Ct} (F : Fun G.K x qual st f fd) (S : FnScope N ps (defScope st)) (hnm : (defScope st).names = nm)
    (hbl : ∀ y ∈ bs, G.mg y = none) (hbody : ∀ X : Cx, Cz G bs k X N nm (fun _ => true) → X.stack = X.env :: X.outer → X.env.frame = some X.env.locals → ZB X (defBody st) body) : FnZ G (k + 1) f fd ps (spZ G.K ps.length (fDef ps.length N.length body)) := z_fnQ F S hnm hbl fun X c h1 h2 _ _ => hbody X c h1 h2
theorem z_fn {G : Gz} {bs : List Str} {k : Nat} {x qual : Str} {st : Stmt} {f : Addr} {fd : FuncData} {N ps : List Str} {nm : List (Str × NameKind)} {body : Fn Ct} (F : Fun G.K x qual st f fd) (S : FnScope N ps (defScope st)) (hnm : (defScope st).names = nm)
    (hbl : ∀ y ∈ bs, G.mg y = none) (hbody : ∀ X : Cx, Cz G bs k X N nm (fun _ => true) → ZB X (defBody st) body) : FnZ G (k + 1) f fd ps (spZ G.K ps.length (fDef ps.length N.length body)) := z_fnT F S hnm hbl fun X c _ _ => hbody X c
def fCall (φ : Phi) (f : Fn (List Dv)) : Fn Dv := fun env s => (f env s).bind φ
section
variable {G : Gz} {bs : List Str} {k : Nat} {X : Cx} {N : List Str} {nm : List (Str × NameKind)} {ow : Str → Bool} {x : Str} {e : Expr} {es : List Expr} {p pos : Pos} {fs : Fn (List Dv)} {n : Nat} {φ : Phi}
theorem run_fnZ (c : Cz G bs k X N nm ow) {f : Addr} {fd : FuncData} {ps : List Str} (hb : Binds G.K fd ps []) (hn : ps.length = n) (F : FnZ G k f fd ps (spZ G.K n φ)) {pins : List (Addr × Obj)} {σ : L2.St} {H : Hp} {s : Shared} {Q : VK} {us : List Value} {vs : List V}
    (I : Inv X pins σ H s) (r : Vals vs us) (h : spZ X.K n φ vs H Q E0) : wpAny (model X.prog X.w) X.A (call (.ref f) us) (EP X pins σ Q) X.xe s := by
  have hl : (us ++ []).length = ps.length := by rw [List.append_nil, ← r.length, h.1, hn]
  have hbind := hb s us (by rw [← c.gK]; exact I.kIn) hl
  rw [List.append_nil] at hbind
  have e0 := I.env0
  rw [c.gp, c.gw, c.gK, c.gm, c.gb] at e0
  rw [c.gK] at h
  have run := F.run X.A X.stack s H ⟨us, []⟩ us vs Q c.gd c.rm e0 hbind r h
  rw [← c.gp, ← c.gw] at run
  refine wpAny_call (codeAny_mono run fun r s' hq => ?_)
  cases r with
  | error e => exact False.elim hq
  | ok fl =>
    cases fl with
    | ret u => exact I.after hq
    | next => exact False.elim hq
    | brk => exact False.elim hq
    | cont => exact False.elim hq
/-- a def of the module is called -/
theorem z_call (c : Cz G bs k X N nm ow) (F : Fz G k x n φ) (ha : ZA X (e :: es) fs) (hg : gOk nm x = true := by decide +kernel) (hn : (e :: es).length = n := by rfl) (hdb : (x == ("__debug__" : Str)) = false := by decide +kernel)
    (he : starEach (e :: es) X.env = (false, eval e X.env) :: starEach es X.env := by rfl) (hpl : (backTo pos (starEach es X.env)).any (·.1) = false := by rfl) :
    ZE X (.Call (.Name x p) (e :: es) [] pos) (fCall φ fs) := by
  obtain ⟨f, fd, ps, h1, h2, h3, h4, h5⟩ := F.ex
  refine ⟨fun pins s σ H Q I h => ?_⟩
  refine wpAny_Call_Name_kw (ld_glob I (c.gl hg) (by rw [c.gm]; exact h1) ?_ hdb)
  obtain ⟨B, env, st, d, st', hE, hS, hf, hQ⟩ := h
  obtain ⟨ds, st1, hf1, hf⟩ := Rs.bind_ok hf
  refine PySem.W.callWith_K (h₀ := X.base) I.ok.mod.kin (by rw [c.gK]; exact h2) (thn (ha.run pos pins s σ H (fun vs H1 => spZ X.K n φ vs H1 Q E0) I ⟨B, env, st, ds, st1, hE, hS, hf1, fun B1 H1 vs x1 e1 S1 r1 => ?_⟩) fun us s1 ⟨vs, H1, I1, r, q⟩ => ⟨I1.kIn, ?_⟩) he hpl
  · exact ⟨by rw [← r1.length]; exact F.len _ _ _ _ hf, B1, ds, st1, d, st', r1, S1, hf, fun B2 H2 v x2 e2 S2 r2 => hQ B2 H2 v (x1.trans x2) (e2.trans e1) S2 r2⟩
  · exact run_fnZ c h3 h4 h5 I1 r q
end
end Z

namespace Z
open PySem PySem.Spec PyProof.Rows L2

/-! ### the law's end -/
theorem rps_ints {K : PySem.W.Frag} {B : Lo} {H : Hp} : ∀ ns : List Int, Rps K B H (ns.map Dv.int) (ns.map V.int)
  | [] => .nil
  | n :: r => .cons (.int n) (rps_ints r)
/-- where the tables of the defs that make lambdas lie, all of them empty yet -/
def TabsT (K : PySem.W.Frag) (h : Heap) : Prop := ∀ x ∈ tabN, ∀ c P, PySem.W.tabIn K x = some (c, P) → h.get? P = some (PySem.W.tabObj #[]) ∧ K.lookup P = none ∧ PySem.W.CodeHd h c P
def TabsB (K : PySem.W.Frag) (mg : Str → Option Value) (base : Heap) : Prop := ∀ x ∈ tabN, ∀ c P, PySem.W.tabIn K x = some (c, P) → LamX.TabB base mg c P
def isTab (K : PySem.W.Frag) (b : Addr) : Prop := ∃ x ∈ tabN, ∃ c, PySem.W.tabIn K x = some (c, b)
theorem endZ {P : Program} {w : World} {K : PySem.W.Frag} {mg mb : Str → Option Value} {k : Nat} {fa a : Addr} {fd : FuncData} {x : Str} {φ : Phi} {s₁ : Shared} {vs : List Value} {ns : List Int}
    (KX : K.In s₁.heap) (hns : s₁.heap.Ns mainGlobals mg) (hb : s₁.heap.Ns builtinsNs mb) (hbb : ∀ x : Str, x ≠ "__name__" → mb x = bootBuiltins x) (hlim : s₁.heap.NoLimit) (hg : s₁.gens = #[])
    (ha : s₁.heap.get? a = some { cls := .type "list", data := .seq vs.toArray }) (hi : IntsAre vs ns) (hl : ns.length ≤ sizeLine) (hr : Room k callerA)
    (hbm : ∃ (bm : Addr) (ob : Obj), mg "__builtins__" = some (.ref bm) ∧ bm ≠ builtinsNs ∧ s₁.heap.get? bm = some ob ∧ ob.cls = .type "module" ∧ ob.dict = some builtinsNs ∧ ob.data = .plain)
    (TT : TabsT K s₁.heap)
    (F : ∀ base : Heap, K.In base → base.Ns mainGlobals mg → TabsB K mg base → FnZ ⟨P, w, K, mg, base⟩ k fa fd [x] (spZ K 1 φ)) (hbind : ∀ (s : Shared) (u : Value), BindsTo s fd ⟨[u], []⟩ [(x, u)])
    (hφ : ∃ s', φ [.ls (ns.map .int)] [] = .ok (.bl true) s') :
    codeAny (model P w) callerA (.call (.ref fa) ⟨[.ref a], []⟩) (fun r s' => r = .ok (.ret (.bool true)) ∧ OldK s₁.heap s'.heap ∧ s'.os = s₁.os ∧ AllBare s'.gens) s₁ := by
  have rv : Vals (ns.map V.int) vs := vals_ints hi
  have lenV := hi.length
  let ob : Obj := { cls := .type "list", data := .seq vs.toArray }
  have tabA : ∀ b, isTab K b → s₁.heap.get? b = some (PySem.W.tabObj #[]) := fun b ⟨x, hx, c, e⟩ => (TT x hx c b e).1
  have notTab : ∀ {b : Addr} {o : Obj}, s₁.heap.get? b = some o → o ≠ PySem.W.tabObj #[] → ¬ isTab K b := fun {b o} e n z => n (Option.some.inj (e.symm.trans (tabA b z)))
  -- the abstract heap at the entry: the script, the tables
  have core : ∀ H : Hp, (∀ b u, H b = some u → (b = a ∧ u = .frz ob (.lst (ns.map V.int)) ∧ K.lookup a = none) ∨ (isTab K b ∧ u = .tbl #[])) → (∀ b, isTab K b → H b = some (.tbl #[])) → Ls K ⟨[], []⟩ H a (ns.map V.int) →
      codeAny (model P w) callerA (.call (.ref fa) ⟨[.ref a], []⟩) (fun r s' => r = .ok (.ret (.bool true)) ∧ OldK s₁.heap s'.heap ∧ s'.os = s₁.os ∧ AllBare s'.gens) s₁ := by
    intro H hA hT hS
    have hok : HOk P w H s₁.heap := fun b u e => by
      rcases hA b u e with ⟨rfl, rfl, _⟩ | ⟨z, rfl⟩
      · exact ⟨ha, by rw [List.length_map]; exact hl, vs, _, rv, ha⟩
      · exact tabA b z
    have free : ∀ {b : Addr} {o : Obj}, s₁.heap.get? b = some o → o ≠ ob → o ≠ PySem.W.tabObj #[] → H b = none := fun {b o} e h1 h2 => by
      cases q : H b with
      | none => rfl
      | some u =>
        rcases hA b u q with ⟨rfl, _, _⟩ | ⟨z, _⟩
        · rw [ha] at e; exact absurd (Option.some.inj e).symm h1
        · rw [tabA b z] at e; exact absurd (Option.some.inj e).symm h2
    have notDict : ∀ {o : Obj} {es : Array DictEntry} {ep : Nat}, o.data = .dict es ep → o ≠ ob ∧ o ≠ PySem.W.tabObj #[] := fun d => by
      refine ⟨fun e => ?_, fun e => ?_⟩
      · rw [e] at d
        have d' : Data.seq vs.toArray _ = Data.dict _ _ := d
        cases d'
      · rw [e] at d
        have d' : Data.fields #[] = Data.dict _ _ := d
        cases d'
    have nsK : ∀ {b : Addr} {m : Str → Option Value}, s₁.heap.Ns b m → (hidT s₁.heap H).Ns b m := fun {b m} ⟨o, es, ep, e, d, r⟩ => ⟨o, es, ep, hidT_get e (free e (notDict d).1 (notDict d).2), d, r⟩
    have hKb : K.In (hidT s₁.heap H) := fun b o e => hidT_get (KX b o e) (by
      cases q : H b with
      | none => rfl
      | some u =>
        rcases hA b u q with ⟨rfl, _, hk⟩ | ⟨⟨x, hx, c, et⟩, _⟩
        · rw [hk] at e; cases e
        · rw [(TT x hx c b et).2.1] at e; cases e)
    have hM : Mod K mg (hidT s₁.heap H) := ⟨hKb, nsK hns, ⟨mb, nsK hb, hbb⟩, let ⟨mc, h1, h2⟩ := hlim; ⟨mc, nsK h1, h2⟩⟩
    have e0 : Env0 P w K mg (hidT s₁.heap H) callerA [] s₁ H := ⟨rfl, hM, fun b o e => of_hidT e, Nat.le_of_eq (hidT_size _ _), trivial, fun b hb => absurd (show b ∈ ([] : List Addr) from hb) (by simp), hok, .of_eq hg⟩
    have hTB : TabsB K mg (hidT s₁.heap H) := fun x hx c Q et => by
      obtain ⟨hQ, _, hC⟩ := TT x hx c Q et
      refine ⟨?_, ?_, fun z => ?_⟩
      · obtain ⟨o, us, file, tf, flags, tg, inF, text, tt, e1, r1, r2, r3, rest⟩ := hC
        refine ⟨o, us, file, tf, flags, tg, inF, text, tt, hidT_get e1 (free e1 (fun z => ?_) fun z => ?_), r1, r2, r3, rest⟩
        · rw [z] at r2
          have r2' : Data.seq vs.toArray _ = Data.fields us := r2
          cases r2'
        · rw [z] at r1
          cases r1
      · obtain ⟨bm, o, b1, b2, b3, b4, b5, b6⟩ := hbm
        have nG : bm ≠ mainGlobals := fun q => by
          obtain ⟨o', es, ep, e', hd, _⟩ := hns
          rw [q, e'] at b3
          cases b3
          rw [hd] at b6
          cases b6
        have nQ : bm ≠ Q := fun q => by
          rw [q, hQ] at b3
          cases b3
          cases b6
        refine ⟨bm, o, b1, b2, nG, nQ, hidT_get b3 (free b3 (fun z => ?_) fun z => ?_), b4, b5, b6⟩
        · rw [z] at b6
          have b6' : Data.seq vs.toArray _ = Data.plain := b6
          cases b6'
        · rw [z] at b6
          cases b6
      · obtain ⟨o', es, ep, e', hd, _⟩ := hns
        rw [z, hQ] at e'
        cases e'
        cases hd
    obtain ⟨s', hφ⟩ := hφ
    have hsp : spZ K 1 φ [.ref a] H (fun v _ => v = .bl true) E0 := ⟨rfl, ⟨[], []⟩, _, [], _, s', .cons (.ls hS (rps_ints ns)) .nil,
      ⟨List.nodup_nil, rfl, fun n a o e => by simp at e, fun b hb => absurd hb (by simp), fun x hx c P e => ⟨#[], hT P ⟨x, hx, c, e⟩, trivial, fun pos cv z => by
        have z : codeAmong pos [] = some cv := z
        simp [codeAmong] at z⟩⟩, hφ, fun B' H' v _ _ _ r => by cases r; rfl⟩
    refine codeAny_mono ((F _ hKb (nsK hns) hTB).run callerA [] s₁ H ⟨[.ref a], []⟩ [.ref a] [.ref a] _ rfl hr e0 (hbind s₁ (.ref a)) (.cons rfl .nil) hsp) fun r s2 h => ?_
    cases r with
    | error e => exact False.elim h
    | ok fl =>
      cases fl with
      | next => exact False.elim h
      | brk => exact False.elim h
      | cont => exact False.elim h
      | ret u =>
        obtain ⟨v, H', os, bare, un, hok', r', q⟩ := h
        have q' : v = .bl true := q
        subst q'
        obtain rfl : u = Value.bool true := r'
        have key : ∀ b o, ¬ isTab K b → s₁.heap.get? b = some o → s2.heap.get? b = some o := fun b o nb e => by
          cases q : H b with
          | none => exact un.keep b o e q (fun z => absurd (show b ∈ ([] : List Addr) from z) (by simp)) (by simp)
          | some u =>
            rcases hA b u q with ⟨rfl, rfl, _⟩ | ⟨z, _⟩
            · obtain ⟨e2, _⟩ := hok' b _ (un.frzs b _ _ q)
              rw [ha] at e; cases e
              exact e2
            · exact absurd z nb
        have grown : ∀ b, isTab K b → ∃ more : Array Value, s2.heap.get? b = some (PySem.W.tabObj more) := fun b hb => by
          obtain ⟨more, z⟩ := un.tbls b #[] (hT b hb)
          exact ⟨_, hok' b _ z⟩
        refine ⟨rfl, ⟨fun b o e => ?_, fun b o e => ?_⟩, os, bare⟩
        · by_cases hb : isTab K b
          · obtain ⟨more, hm⟩ := grown b hb
            have eT := tabA b hb
            rw [eT] at e
            cases e
            obtain ⟨x, hx, c, et⟩ := hb
            obtain ⟨_, _, hC⟩ := TT x hx c b et
            exact .inr (.inl ⟨(hC.tab eT).isCodeTable, rfl, #[], more, rfl, by rw [Array.empty_append]; exact hm⟩)
          · exact .inl (key b o hb e)
        · by_cases hb : isTab K b
          · obtain ⟨more, hm⟩ := grown b hb
            exact ⟨_, hm⟩
          · exact ⟨o, key b o hb e⟩
  have aT : ¬ isTab K a := notTab ha (fun z => by
    have z' : Data.seq vs.toArray _ = Data.fields #[] := congrArg Obj.data z
    cases z')
  classical
  cases hk : K.lookup a with
  | some o =>
    have e := KX a o hk
    rw [ha] at e
    cases e
    refine core (fun b => if isTab K b then some (.tbl #[]) else none) (fun b u e => ?_) (fun b hb => if_pos hb) (.inr (.inr ⟨_, vs.toArray, _, hk, rfl, rfl, rfl, by rw [List.size_toArray, lenV]; exact hl, by simpa using rv⟩))
    by_cases hb : isTab K b
    · have e' := (if_pos hb).symm.trans e
      exact .inr ⟨hb, (Option.some.inj e').symm⟩
    · have e' := (if_neg hb).symm.trans e
      cases e'
  | none =>
    refine core (fun b => if b = a then some (.frz ob (.lst (ns.map V.int))) else if isTab K b then some (.tbl #[]) else none) (fun b u e => ?_) (fun b hb => (if_neg (show ¬ b = a from fun z => aT (by rw [← z]; exact hb))).trans (if_pos hb)) (.inr (.inl ⟨ob, if_pos rfl⟩))
    by_cases hb : b = a
    · have e' := (if_pos hb).symm.trans e
      exact .inl ⟨hb, (Option.some.inj e').symm, hk⟩
    · have e1 := (if_neg hb).symm.trans e
      by_cases hb2 : isTab K b
      · have e' := (if_pos hb2).symm.trans e1
        exact .inr ⟨hb2, (Option.some.inj e').symm⟩
      · have e' := (if_neg hb2).symm.trans e1
        cases e'
/-- the goal behind the head -/
theorem walkZ {l : PySem.W.OpenLaw} {n k : Nat} {q : Program} {loose : List Str} {XP : (Str → Option Value) → Heap → Prop} {YP : World → Heap → Prop} {d : DefRec} {K : Params → PySem.W.Frag} {x : Str} {φ : Phi}
    (hn : l.most = some n) (hn2 : n ≤ sizeLine) (hdf : d.params.defaults = []) (hr : Room k callerA) (hY : ∀ (w : World) (h : Heap), YP w h → (K w.params).In h)
    (F : ∀ (w : World) (mg : Str → Option Value) (fa : Addr) (h : Heap), (K w.params).In h → h.Ns mainGlobals mg → mg d.name = some (.ref fa) →
      ∃ fd : FuncData, (∀ (s : Shared) (u : Value), BindsTo s fd ⟨[u], []⟩ [(x, u)]) ∧ (∀ y ∈ tabN, ∀ c P, PySem.W.tabIn (K w.params) y = some (c, P) → (K w.params).lookup P = none) ∧ ∀ base : Heap, (K w.params).In base → base.Ns mainGlobals mg → TabsB (K w.params) mg base → FnZ ⟨l.prog, w, K w.params, mg, base⟩ k fa fd [x] (spZ (K w.params) 1 φ))
    (hφ : ∀ ns : List Int, ns.length ≤ n → ∃ s', φ [.ls (ns.map .int)] [] = .ok (.bl true) s')
    (hrec : ∀ y ∈ tabN, ((recsOf q).find? (fun e => e.name == y)).isSome = true := by intro y hy; cases hy) : PySem.W.WalkO q loose XP YP l.row.toRowW d [] (fun f vs => PySem.call f vs) := by
  refine Att.attach_call hn hdf fun w s₀ s₁ mg mb fa o pm cd doc a vs ns G Y ho hd hcd hmg hobj hints hlen hg => ?_
  have KX := hY w _ Y
  obtain ⟨fd, hb, hN, hF⟩ := F w mg fa _ KX G.T.g hmg
  refine endZ KX G.T.g G.T.b G.T.builtins G.T.nolimit hg hobj hints (Nat.le_trans hlen hn2) hr G.T.bmain (fun y hy c P e => ?_) hF hb (hφ ns hlen)
  obtain ⟨d', hd'⟩ := Option.isSome_iff_exists.mp (hrec y hy)
  obtain ⟨h1, h2⟩ := PySem.W.tab_of G.T KX hd' e
  exact ⟨h2, hN y hy c P e, h1⟩
/-- a def of the module, with all that is asked of it -/
theorem fz_mk {G : Gz} {bs : List Str} {k n : Nat} {x qual : Str} {st : Stmt} {f : Addr} {fd : FuncData} {N ps : List Str} {nm : List (Str × NameKind)} {body : Fn Ct} (F : Fun G.K x qual st f fd) (hm : G.mg x = some (.ref f)) (hb : Binds G.K fd ps []) (hn : ps.length = n) (S : FnScope N ps (defScope st)) (hnm : (defScope st).names = nm)
    (hbl : ∀ y ∈ bs, G.mg y = none) (hbody : ∀ X : Cx, Cz G bs k X N nm (fun _ => true) → ZB X (defBody st) body) : Fz G (k + 1) x n (fDef n N.length body) := by
  subst hn
  refine ⟨fun ds s d s' h => ?_, f, fd, ps, hm, F.kp, hb, rfl, z_fn F S hnm hbl hbody⟩
  exact beq_iff_eq.mp (Rs.iff_ok h).1
end Z

namespace Z
open PySem PySem.Spec PyProof.Rows L2

/-! ### a[lo:hi] -/
def tOfO (K : PySem.W.Frag) (f : Fn (Option Int)) : TO := fun σ H Q => ∃ B env s o s', RpE K B H env σ ∧ Sim K B H s ∧ f env s = .ok o s' ∧
  ∀ (B' : Lo) (H' : Hp), Ext B H B' H' → B'.hid = B.hid → Sim K B' H' s' → Q o H'
abbrev ZO (X : Cx) (o : Option Expr) (f : Fn (Option Int)) : Prop := PO X o (tOfO X.K f)
def fNoPart : Fn (Option Int) := fun _ s => .ok none s
def fPart (f : Fn Dv) : Fn (Option Int) := fun env s => (f env s).bind fun d s1 => match d with | .int i => .ok (some i) s1 | _ => .bad
theorem po_mono {X : Cx} {e : Option Expr} {t t' : TO} (h : PO X e t) (hh : ∀ σ H Q, t' σ H Q → t σ H Q) : PO X e t' := ⟨fun pins s σ H Q I q => h.run pins s σ H Q I (hh _ _ _ q)⟩
section
variable {G : Gz} {bs : List Str} {k : Nat} {X : Cx} {N : List Str} {nm : List (Str × NameKind)} {ow : Str → Bool} {a b e o i v : Expr} {es : List Expr} {fa fb fc fo fi fv : Fn Dv} {fs : Fn (List Dv)} {pos p : Pos} {x : Str}
theorem zo_none : ZO X none fNoPart := po_mono po_none fun σ H Q q => by
  obtain ⟨B, env, s, d, s', hE, hS, hf, hQ⟩ := q
  cases hf
  exact hQ B H (Ext.refl _ _) rfl hS
theorem zo_some (he : ZE X e fa) : ZO X (some e) (fPart fa) := po_mono (po_some he) fun σ H Q q => by
  obtain ⟨B, env, s, d, s', hE, hS, hf, hQ⟩ := q
  obtain ⟨y, s1, h1, hf⟩ := Rs.bind_ok hf
  cases y with
  | int j =>
    cases hf
    refine ⟨B, env, s, _, _, hE, hS, h1, fun B1 H1 v x1 e1 S1 r1 => ?_⟩
    cases r1
    exact ⟨j, rfl, hQ B1 H1 x1 e1 S1⟩
  | _ => cases hf
def cutD (xs : List Dv) (lo hi : Option Int) : List Dv := (xs.drop (HT.sIx xs.length 0 lo)).take (HT.sIx xs.length xs.length hi - HT.sIx xs.length 0 lo)
theorem cut_rp {K : PySem.W.Frag} {B : Lo} {H : Hp} {ds : List Dv} {xs : List V} (r : Rps K B H ds xs) (lo hi : Option Int) : Rps K B H (cutD ds lo hi) (cutV xs lo hi) := by
  unfold cutD cutV
  rw [r.length]
  exact (r.drop _).take _
theorem cutD_whole (ds : List Dv) (lo hi : Option Int) (h : HT.sIx ds.length 0 lo = 0 ∧ HT.sIx ds.length ds.length hi = ds.length) : cutD ds lo hi = ds := by
  unfold cutD
  rw [h.1, h.2]; simp
/-- a slice of a tuple, a text, a list -/
def gSl (x : Dv) (lo hi : Option Int) (s : Sto) : Rs Dv := match x with
  | .tup ds => .ok (.tup (cutD ds lo hi)) s
  | .str z => Rs.iff (decide (z.length ≤ 16777216)) (.ok (.str (cutS z lo hi)) s)
  | .ls ds => .ok (.ls (cutD ds lo hi)) s
  | .loc n => match s[n]? with | some (.lst ds) => .ok (.ls (cutD ds lo hi)) s | _ => .bad
  | _ => .bad
def rSlZ (K : PySem.W.Frag) : V → Option Int → Option Int → Hp → VK → Prop := fun x lo hi H Q => ∃ a xs, x = .ref a ∧ SqT K H a xs ∧
  (HT.sIx xs.length 0 lo = 0 ∧ HT.sIx xs.length xs.length hi = xs.length → Q (.ref a) H) ∧ (¬ (HT.sIx xs.length 0 lo = 0 ∧ HT.sIx xs.length xs.length hi = xs.length) → ∀ p o, H p = none → o.dict = none → Q (.ref p) (upd H p (.frz o (.tup (cutV xs lo hi)))))
theorem sl_tupZ : SlR X (rSlZ X.K) := by
  intro pins s σ H x v vl vu lo hi sl Q I rx hs pl pu h
  obtain ⟨a, xs, rfl, hx, q1, q2⟩ := h
  cases rx
  obtain ⟨its, r, ht, hz⟩ := I.tuple hx
  have hlen : its.toArray.size = xs.length := by rw [List.size_toArray]; exact r.length.symm
  refine ⟨"tuple", _, PyProof.Rows.slot_tuple_getitem.lookup, ht.typeIs, ?_⟩
  by_cases hw : HT.sIx xs.length 0 lo = 0 ∧ HT.sIx xs.length xs.length hi = xs.length
  · exact getItem_tuple_whole ht hs pl pu (by rw [hlen]; exact hw) ⟨.ref a, H, I, rfl, q1 hw⟩
  · refine HT.getItem_tuple_cut ht hs pl pu (by rw [hlen]; exact hw) ?_ (by rw [hlen]; exact hz)
    rw [hlen]
    exact tupK_new (t' := s.toks) I (Nat.le_trans (cutV_length xs lo hi) hz) ((r.drop (HT.sIx xs.length 0 lo)).take (HT.sIx xs.length xs.length hi - HT.sIx xs.length 0 lo)) (q2 hw)
def fSl (f : Fn Dv) (l h : Fn (Option Int)) : Fn Dv := fun env s => (f env s).bind fun x s1 => (l env s1).bind fun lo s2 => (h env s2).bind fun hi s3 => gSl x lo hi s3
theorem ls_back {K : PySem.W.Frag} {B : Lo} {H : Hp} {s : Sto} {d : List Dv} {Q : VK} (hQ : PostZ K B H s (.ls d) Q) {B' : Lo} {H' : Hp} {p : Addr} {xs : List V} (x : Ext B H ⟨B'.locs, p :: B'.hid⟩ H') (e : B'.hid = B.hid) (S : Sim K ⟨B'.locs, p :: B'.hid⟩ H' s)
    (hh : p ∉ B'.hid) (hl : H' p = some (.lst xs)) (r : Rps K ⟨B'.locs, p :: B'.hid⟩ H' d xs) : Q (.ref p) H' :=
  hQ ⟨B'.locs, B'.hid⟩ H' _ (x.drop fun b hb => by rw [e]; exact hb) e S.back (.ls (.inl ⟨hl, (S.hid p List.mem_cons_self).1, hh⟩) (r.mono Mo.back))
theorem z_slice {lo hi : Option Expr} {p2 : Pos} {fl fh : Fn (Option Int)} (he : ZE X e fa) (hl : ZO X lo fl) (hh : ZO X hi fh) : ZE X (.Subscript e (.Slice lo hi none p2) pos) (fSl fa fl fh) := by
  refine pe_mono (pe_slice (SlR.or sl_tupZ (SlR.or sl_str sl_list)) he hl hh) fun σ H Q q => ?_
  obtain ⟨B, env, s, d, s', hE, hS, hf, hQ⟩ := q
  obtain ⟨x, s1, h1, hf⟩ := Rs.bind_ok hf
  obtain ⟨l, s2, h2, hf⟩ := Rs.bind_ok hf
  obtain ⟨h, s3, h3, hf⟩ := Rs.bind_ok hf
  refine ⟨B, env, s, _, _, hE, hS, h1, fun B1 H1 v x1 e1 S1 r1 => ?_⟩
  refine ⟨B1, env, s1, _, _, hE.mono x1.mo, S1, h2, fun B2 H2 x2 e2 S2 => ?_⟩
  refine ⟨B2, env, s2, _, _, hE.mono (x1.trans x2).mo, S2, h3, fun B3 H3 x3 e3 S3 => ?_⟩
  have xx := x1.trans (x2.trans x3)
  have ee := e3.trans (e2.trans e1)
  have hQ3 : PostZ X.K B3 H3 s' d Q := fun B4 H4 u x4 e4 S4 r4 => hQ B4 H4 u (xx.trans x4) (e4.trans ee) S4 r4
  have r3 := r1.mono (x2.trans x3).mo
  have asList : ∀ {a : Addr} {xs : List V} {ds : List Dv}, v = .ref a → SqL X.K H3 a xs → Rps X.K B3 H3 ds xs → s' = s3 → d = .ls (cutD ds l h) → rSlL X.K v l h H3 Q := fun {a xs ds} ev hq rr es ed => by
    subst ev es ed
    refine ⟨a, xs, rfl, hq, fun p hp => ?_⟩
    exact new_lst S3 (cut_rp rr l h) hp fun B' H' p xs x e S hh _ hl r => ls_back hQ3 x e S hh hl r
  cases x with
  | tup ds =>
    cases hf
    cases r3 with
    | tup h4 h5 =>
      refine .inl ⟨_, _, rfl, h4.sq, fun hw => ?_, fun hw p o hp hd => new_tup S3 (cut_rp h5 l h) hQ3 hp hd⟩
      rw [← h5.length] at hw
      rw [cutD_whole _ _ _ hw] at hQ3
      exact hQ3.same S3 (.tup h4 h5)
  | str z =>
    obtain ⟨hz, hf⟩ := Rs.iff_ok hf
    cases hf
    cases r3
    exact .inr (.inl ⟨z, rfl, len_line (of_decide_eq_true hz), hQ3.same S3 (.str _)⟩)
  | ls ds =>
    cases hf
    cases r3 with
    | ls h4 h5 => exact .inr (.inr (asList rfl h4.sq h5 rfl rfl))
  | loc n =>
    cases r3 with
    | loc h4 =>
      obtain ⟨o, ho, ro⟩ := S3.at h4
      have hf' : (match s3[n]? with | some (.lst ds) => Rs.ok (Dv.ls (cutD ds l h)) s3 | _ => Rs.bad) = Rs.ok d s' := hf
      rw [ho] at hf'
      cases o with
      | lst ds =>
        obtain ⟨xs, h5, h6⟩ := ro
        injection hf' with e1 e2
        exact .inr (.inr (asList rfl (.of h5) h6 e2.symm e1.symm))
      | _ => cases hf'
  | _ => cases hf

/-! ### builtins called -/
def CallZ (K : PySem.W.Frag) (r : List V → Hp → VK → Prop) (g : List Dv → Sto → Rs Dv) : Prop :=
  ∀ (B : Lo) (H : Hp) (s : Sto) (xs : List Dv) (vs : List V) (d : Dv) (s' : Sto) (Q : VK), Sim K B H s → Rps K B H xs vs → g xs s = .ok d s' → PostZ K B H s' d Q → r vs H Q
def CallLZ (K : PySem.W.Frag) (r : List V → Hp → VK → Prop) (g : List Dv → Sto → Rs (List Dv)) : Prop :=
  ∀ (B : Lo) (H : Hp) (s : Sto) (xs : List Dv) (vs : List V) (d : List Dv) (s' : Sto) (Q : VK), Sim K B H s → Rps K B H xs vs → g xs s = .ok d s' →
    (∀ (B' : Lo) (H' : Hp) (p : Addr) (xs : List V), Ext B H ⟨B'.locs, p :: B'.hid⟩ H' → B'.hid = B.hid → Sim K ⟨B'.locs, p :: B'.hid⟩ H' s' → p ∉ B'.hid → H p = none → H' p = some (.lst xs) → Rps K ⟨B'.locs, p :: B'.hid⟩ H' d xs → Q (.ref p) H') → r vs H Q
variable {r : List V → Hp → VK → Prop}
theorem call_to {g : List Dv → Sto → Rs Dv} (hg : CallZ X.K r g) : ∀ σ H Q, tOf X.K (fCall g fs) σ H Q → tCB r (tOfA X.K fs) σ H Q := fun σ H Q q => by
  obtain ⟨B, env, s, d, s', hE, hS, hf, hQ⟩ := q
  obtain ⟨x, s1, h1, hf⟩ := Rs.bind_ok hf
  refine ⟨B, env, s, _, _, hE, hS, h1, fun B1 H1 v x1 e1 S1 r1 => ?_⟩
  exact hg B1 H1 s1 x v d s' Q S1 r1 hf fun B2 H2 u x2 e2 S2 r2 => hQ B2 H2 u (x1.trans x2) (e2.trans e1) S2 r2
def fCallL (g : List Dv → Sto → Rs (List Dv)) (f : Fn (List Dv)) : Fn (List Dv) := fun env s => (f env s).bind g
theorem callL_to {g : List Dv → Sto → Rs (List Dv)} (hg : CallLZ X.K r g) : ∀ σ H Q, tOfL X.K (fCallL g fs) σ H Q → tCB r (tOfA X.K fs) σ H Q := fun σ H Q q => by
  obtain ⟨B, env, s, d, s', hE, hS, hf, hQ⟩ := q
  obtain ⟨x, s1, h1, hf⟩ := Rs.bind_ok hf
  refine ⟨B, env, s, _, _, hE, hS, h1, fun B1 H1 v x1 e1 S1 r1 => ?_⟩
  exact hg B1 H1 s1 x v d s' Q S1 r1 hf fun B2 H2 p xs x2 e2 S2 hh hn hl r2 => hQ B2 H2 p xs (x1.trans x2) (e2.trans e1) S2 hh (new_none x1 x2 S2 hn) hl r2
theorem z_callB {id : String} {g : List Dv → Sto → Rs Dv} (c : Cz G bs k X N nm ow) (hc : CallR X (.builtin id) r) (hg : CallZ X.K r g) (ha : ZA X (e :: es) fs) (hv : bootBuiltins x = some (.builtin id)) (hb : bOk bs nm x = true) (hn : x ≠ "__name__") (hdb : (x == ("__debug__" : Str)) = false)
    (he : starEach (e :: es) X.env = (false, eval e X.env) :: starEach es X.env) (hpl : (backTo pos (starEach es X.env)).any (·.1) = false) : ZE X (.Call (.Name x p) (e :: es) [] pos) (fCall g fs) :=
  pe_mono (pe_callB hc (c.blt hb).1 (c.blt hb).2 hv ha hn hdb he hpl) (call_to hg)
theorem z_callTy {T : String} {g : List Dv → Sto → Rs Dv} (c : Cz G bs k X N nm ow) (hc : CallR X (.type T) r) (hg : CallZ X.K r g) (ha : ZA X (e :: es) fs) (hv : bootBuiltins x = some (.type T)) (hb : bOk bs nm x = true) (hn : x ≠ "__name__") (hdb : (x == ("__debug__" : Str)) = false)
    (he : starEach (e :: es) X.env = (false, eval e X.env) :: starEach es X.env) (hpl : (backTo pos (starEach es X.env)).any (·.1) = false) : ZE X (.Call (.Name x p) (e :: es) [] pos) (fCall g fs) :=
  pe_mono (pe_callTy hc (c.blt hb).1 (c.blt hb).2 hv ha hn hdb he hpl) (call_to hg)
theorem z_callTyL {T : String} {g : List Dv → Sto → Rs (List Dv)} (c : Cz G bs k X N nm ow) (hc : CallR X (.type T) r) (hg : CallLZ X.K r g) (ha : ZA X (e :: es) fs) (hv : bootBuiltins x = some (.type T)) (hb : bOk bs nm x = true) (hn : x ≠ "__name__") (hdb : (x == ("__debug__" : Str)) = false)
    (he : starEach (e :: es) X.env = (false, eval e X.env) :: starEach es X.env) (hpl : (backTo pos (starEach es X.env)).any (·.1) = false) : ZL X (.Call (.Name x p) (e :: es) [] pos) (fCallL g fs) :=
  pe_mono (pe_callTy hc (c.blt hb).1 (c.blt hb).2 hv ha hn hdb he hpl) (callL_to hg)
/-- len -/
def gLen (xs : List Dv) (s : Sto) : Rs Dv := match xs with
  | [.str z] => Rs.iff (decide (z.length ≤ 16777216)) (.ok (.int z.length) s)
  | [x] => match seqOf s x with | some ds => .ok (.int ds.length) s | none => .bad
  | _ => .bad
theorem cz_len {K : PySem.W.Frag} : CallZ K (fun xs H Q => ∃ x n, xs = [x] ∧ LenV K x H n ∧ Q (.int n) H) gLen := by
  intro B H s xs vs d s' Q S r h q
  unfold gLen at h
  split at h
  · obtain ⟨hz, h⟩ := Rs.iff_ok h
    cases h
    cases r with
    | cons r1 rr =>
      cases r1; cases rr
      exact ⟨_, _, rfl, ⟨len_line (of_decide_eq_true hz), rfl⟩, q.same S (.int _)⟩
  · split at h
    · rename_i e1
      cases h
      cases r with
      | cons r1 rr =>
        cases rr
        obtain ⟨a, us, rfl, hq, r2⟩ := seq_of S r1 e1
        refine ⟨_, us.length, rfl, ?_, by rw [← r2.length]; exact q.same S (.int _)⟩
        rcases hq with hq | hq
        · exact .inl ⟨us, hq, rfl⟩
        · exact .inr ⟨us, hq, rfl⟩
    · cases h
  · cases h
theorem z_len (c : Cz G bs k X N nm ow) (ha : ZA X [e] fs) (hb : bOk bs nm "len" = true := by decide +kernel) (he : starEach [e] X.env = (false, eval e X.env) :: starEach [] X.env := by rfl) : ZE X (.Call (.Name "len" p) [e] [] pos) (fCall gLen fs) :=
  z_callB c call_len cz_len ha PySem.boot_len hb (by decide +kernel) (by decide +kernel) he rfl
/-- tuple(..) -/
def gTuple (xs : List Dv) (s : Sto) : Rs Dv := match xs with
  | [.tup ds] => .ok (.tup ds) s
  | [x] => match seqOf s x with | some ds => .ok (.tup ds) s | none => .bad
  | _ => .bad
theorem call_tupleZ : CallR X (.type "tuple") (fun xs H Q => ∃ p ys, xs = [.ref p] ∧ ((SqL X.K H p ys ∧ ∀ l o, H l = none → o.dict = none → Q (.ref l) (upd H l (.frz o (.tup ys)))) ∨ (SqT X.K H p ys ∧ Q (.ref p) H))) := by
  intro pins s σ H xs us Q I r h
  obtain ⟨p, ys, rfl, h⟩ := h
  rw [Vals.ref1 r]
  rcases h with ⟨hq, q⟩ | ⟨hq, q⟩
  · obtain ⟨its, r', pl, hz⟩ := I.list hq
    have hlen := r'.length
    refine call_tuple_list pl.isList (fun h' kp => ?_) (by simp only [List.size_toArray] <;> omega)
    have I1 : Inv X pins σ H { s with heap := h' } := I.kept (t' := s.toks) kp
    exact tupK_new (t' := s.toks) I1 hz r' q
  · obtain ⟨its, r', pl, hz⟩ := I.tuple hq
    exact call_tuple_same pl ⟨.ref p, H, I, rfl, q⟩
theorem cz_tuple {K : PySem.W.Frag} : CallZ K (fun xs H Q => ∃ p ys, xs = [.ref p] ∧ ((SqL K H p ys ∧ ∀ l o, H l = none → o.dict = none → Q (.ref l) (upd H l (.frz o (.tup ys)))) ∨ (SqT K H p ys ∧ Q (.ref p) H))) gTuple := by
  intro B H s xs vs d s' Q S r h q
  unfold gTuple at h
  split at h
  · cases h
    cases r with
    | cons r1 rr =>
      cases rr
      cases r1 with
      | tup h1 h2 => exact ⟨_, _, rfl, .inr ⟨h1.sq, q.same S (.tup h1 h2)⟩⟩
  · rename_i x hx
    split at h
    · rename_i ds e1
      cases h
      cases r with
      | @cons d0 v0 ds0 vs0 r1 rr =>
        cases rr
        have lst : ∃ a us, v0 = V.ref a ∧ SqL K H a us ∧ Rps K B H ds us := by
          cases r1 with
          | tup h1 h2 => exact absurd rfl (hx _)
          | ls h1 h2 => cases e1; exact ⟨_, _, rfl, h1.sq, h2⟩
          | loc h1 =>
            obtain ⟨o, ho, ro⟩ := S.at h1
            simp only [seqOf, ho] at e1
            cases o with
            | lst es =>
              cases e1
              obtain ⟨us, h3, h4⟩ := ro
              exact ⟨_, us, rfl, .of h3, h4⟩
            | _ => cases e1
          | _ => cases e1
        obtain ⟨a, us, ea, hq, r2⟩ := lst
        exact ⟨a, us, by rw [ea], .inl ⟨hq, fun l o hl hd => new_tup S r2 q hl hd⟩⟩
    · cases h
  · cases h
theorem z_tuple (c : Cz G bs k X N nm ow) (ha : ZA X [e] fs) (hb : bOk bs nm "tuple" = true := by decide +kernel) (he : starEach [e] X.env = (false, eval e X.env) :: starEach [] X.env := by rfl) : ZE X (.Call (.Name "tuple" p) [e] [] pos) (fCall gTuple fs) :=
  z_callTy c call_tupleZ cz_tuple ha (by decide +kernel) hb (by decide +kernel) (by decide +kernel) he rfl
/-- list(..) -/
def gList (xs : List Dv) (s : Sto) : Rs (List Dv) := match xs with
  | [x] => match seqOf s x with | some ds => .ok ds s | none => .bad
  | _ => .bad
theorem cz_list {K : PySem.W.Frag} : CallLZ K (fun xs H Q => ∃ p ys, xs = [.ref p] ∧ (SqL K H p ys ∨ SqT K H p ys) ∧ ∀ l, H l = none → Q (.ref l) (upd H l (.lst ys))) gList := by
  intro B H s xs vs d s' Q S r h q
  unfold gList at h
  split at h
  · split at h
    · rename_i e1
      cases h
      cases r with
      | cons r1 rr =>
        cases rr
        obtain ⟨a, us, rfl, hq, r2⟩ := seq_of S r1 e1
        exact ⟨a, us, rfl, hq, fun l hl => new_lst S r2 hl q⟩
    · cases h
  · cases h
theorem z_list (c : Cz G bs k X N nm ow) (ha : ZA X [e] fs) (hb : bOk bs nm "list" = true := by decide +kernel) (he : starEach [e] X.env = (false, eval e X.env) :: starEach [] X.env := by rfl) : ZL X (.Call (.Name "list" p) [e] [] pos) (fCallL gList fs) :=
  z_callTyL c call_list_of cz_list ha (by decide +kernel) hb (by decide +kernel) (by decide +kernel) he rfl
end
end Z

namespace Z
open PySem PySem.Spec PyProof.Rows L2

/-! ### methods of lists and tuples -/
def MtZ (K : PySem.W.Frag) (r : V → List V → Hp → VK → Prop) (g : Dv → List Dv → Sto → Rs Dv) : Prop :=
  ∀ (B : Lo) (H : Hp) (s : Sto) (x : Dv) (xs : List Dv) (v : V) (vs : List V) (d : Dv) (s' : Sto) (Q : VK), Sim K B H s → Rp K B H x v → Rps K B H xs vs → g x xs s = .ok d s' → PostZ K B H s' d Q → r v vs H Q
/-- x is of that kind -/
def isL (x : Dv) (s : Sto) : Bool := match x with
  | .ls _ => true
  | .loc n => match s[n]? with | some (.lst _) => true | _ => false
  | _ => false
def isT (x : Dv) (_ : Sto) : Bool := match x with | .tup _ => true | _ => false
def isD (x : Dv) (s : Sto) : Bool := match x with
  | .loc n => match s[n]? with | some (.dk _) => true | some (.dt _) => true | _ => false
  | _ => false
def isS (x : Dv) (_ : Sto) : Bool := match x with | .str _ => true | _ => false
def fMt (ty : Dv → Sto → Bool) (g : Dv → List Dv → Sto → Rs Dv) (fo : Fn Dv) (fs : Fn (List Dv)) : Fn Dv := fun env s => (fo env s).bind fun x s1 => Rs.iff (ty x s1) ((fs env s1).bind fun xs s2 => g x xs s2)
def TyZ (K : PySem.W.Frag) (ty : Dv → Sto → Bool) (R : V → Hp → Prop) : Prop := ∀ (B : Lo) (H : Hp) (s : Sto) (x : Dv) (v : V), Sim K B H s → Rp K B H x v → ty x s = true → R v H
theorem ty_l {K : PySem.W.Frag} : TyZ K isL (tyV K "list") := by
  intro B H s x v S r h
  cases r with
  | ls h1 h2 => exact .inl ⟨rfl, _, h1.sq⟩
  | loc h1 =>
    obtain ⟨o, ho, ro⟩ := S.at h1
    simp only [isL, ho] at h
    cases o with
    | lst ds => obtain ⟨xs, h3, _⟩ := ro; exact .inl ⟨rfl, xs, .of h3⟩
    | _ => cases h
  | _ => cases h
/-- a tuple with a plain head -/
def tyT (K : PySem.W.Frag) (v : V) (H : Hp) : Prop := ∃ a xs, v = .ref a ∧ Tk K H a xs
theorem ty_t {K : PySem.W.Frag} : TyZ K isT (tyT K) := by
  intro B H s x v S r h
  cases r with
  | tup h1 h2 => exact ⟨_, _, rfl, h1⟩
  | _ => cases h
def tMt (K : PySem.W.Frag) (R : V → Hp → Prop) (r : V → List V → Hp → VK → Prop) (to : TE) (t : TA) : TE := fun σ H Q => to σ H fun x H1 => R x H1 ∧ t σ H1 fun xs H2 => r x xs H2 Q
section
variable {G : Gz} {bs : List Str} {k : Nat} {X : Cx} {N : List Str} {nm : List (Str × NameKind)} {ow : Str → Bool} {a b e o i v : Expr} {es : List Expr} {fa fb fc fo fi fv : Fn Dv} {fs : Fn (List Dv)} {pos p apos cpos : Pos} {x name : Str} {id : String} {r : V → List V → Hp → VK → Prop} {g : Dv → List Dv → Sto → Rs Dv}
theorem mt_to {ty : Dv → Sto → Bool} {R : V → Hp → Prop} (ht : TyZ X.K ty R) (hg : MtZ X.K r g) : ∀ σ H Q, tOf X.K (fMt ty g fo fs) σ H Q → tMt X.K R r (tOf X.K fo) (tOfA X.K fs) σ H Q := fun σ H Q q => by
  obtain ⟨B, env, s, d, s', hE, hS, hf, hQ⟩ := q
  obtain ⟨x, s1, h1, hf⟩ := Rs.bind_ok hf
  obtain ⟨hc, hf⟩ := Rs.iff_ok hf
  obtain ⟨xs, s2, h2, hf⟩ := Rs.bind_ok hf
  refine ⟨B, env, s, _, _, hE, hS, h1, fun B1 H1 v x1 e1 S1 r1 => ⟨ht B1 H1 s1 x v S1 r1 hc, ?_⟩⟩
  refine ⟨B1, env, s1, _, _, hE.mono x1.mo, S1, h2, fun B2 H2 vs x2 e2 S2 r2 => ?_⟩
  exact hg B2 H2 s2 x xs v vs d s' Q S2 (r1.mono x2.mo) r2 hf fun B3 H3 u x3 e3 S3 r3 => hQ B3 H3 u (x1.trans (x2.trans x3)) (e3.trans (e2.trans e1)) S3 r3
/-- a method of a tuple, asked by places -/
theorem pe_mtT {to : TE} {t : TA} (slot : Slot "tuple" name id) (pa : PlainAttrs "tuple") (hty : typeOf (.builtin id) = pure (.type "method_descriptor")) (hm : MtR X id r) (ho : PE X o to) (ha : PA X (e :: es) t)
    (hbase : attributeBase o name X.env (eval o X.env) = eval o X.env)
    (hfew : ((backTo cpos (starEach (e :: es) X.env)).all (fun x => !x.1) && (backToKw cpos (keywordEach [] X.env)).all (fun x => x.1.isSome)
      && decide ((e :: es).length + ([] : List Keyword).length + (if ([] : List Keyword).isEmpty then 0 else 1) < 30)) = true)
    (hline : (apos.endLine == cpos.line) = true) (hs : starEach (e :: es) X.env = (false, eval e X.env) :: starEach es X.env) (hplain : (backTo cpos (starEach es X.env)).any (·.1) = false) :
    PE X (.Call (.Attribute o name apos) (e :: es) [] cpos) (tMt X.K (tyT X.K) r to t) := by
  refine ⟨fun pins s σ H Q I h => ?_⟩
  refine wpAny_Call_method_late hbase hfew hline rfl (thn (ho.run pins s σ H _ I h) fun v s1 ⟨x, H1, I1, r1, ⟨at1, xs1, ev, tk⟩, q1⟩ => ?_)
  subst ev
  cases r1
  have hob : ∃ ob, s1.heap.get? at1 = some ob ∧ ob.cls = .type "tuple" ∧ ob.dict = none := by
    rcases tk with ⟨ob, h1, h2⟩ | ⟨ob, its, n, h1, h2, h3, _⟩
    · obtain ⟨h4, h5⟩ := I1.hok _ _ h1
      obtain ⟨_, _, _, ob', e1, e2, _⟩ := h5
      rw [h4] at e1; cases e1
      exact ⟨ob, h4, e2, h2⟩
    · exact ⟨ob, I1.kIn _ _ h1, h2, h3⟩
  obtain ⟨ob, g1, g2, g3⟩ := hob
  refine ⟨"tuple", id, pa, slot, hty, ⟨ob, g1, g2⟩, fun a e => ?_, ?_⟩
  · cases e
    exact ⟨ob, g1, g3⟩
  have hA := ha.run cpos pins s1 σ H1 _ I1 q1
  rw [hs] at hA ⊢
  refine Calls.callWith_builtin (by show (false || (backTo cpos (starEach es X.env)).any (·.1)) = false; rw [hplain] <;> rfl) (Calls.evalArgs_plain ?_)
  exact thn hA fun us s2 ⟨vs, H2, I2, r2, q2⟩ => hm pins s2 σ H2 (.ref at1) vs (.ref at1) us Q I2 rfl r2 q2

/-! append, extend, pop -/
def gAppend (x : Dv) (xs : List Dv) (s : Sto) : Rs Dv := match x, xs with
  | .loc n, [d] => match s[n]? with
    | some (.lst ds) => Rs.iff (decide (ds.length < 16777216)) (.ok .non (s.set n (.lst (ds ++ [d]))))
    | _ => .bad
  | _, _ => .bad
theorem loc_lst {K : PySem.W.Frag} {B : Lo} {H : Hp} {s : Sto} (S : Sim K B H s) {n : Nat} {v : V} {ds : List Dv} (r : Rp K B H (.loc n) v) (e : s[n]? = some (.lst ds)) : ∃ a xs, v = .ref a ∧ B.locs[n]? = some a ∧ H a = some (.lst xs) ∧ Rps K B H ds xs := by
  cases r with
  | loc h1 =>
    obtain ⟨o, ho, ro⟩ := S.at h1
    rw [e] at ho; cases ho
    obtain ⟨xs, h3, h4⟩ := ro
    exact ⟨_, xs, rfl, h1, h3, h4⟩
/-- the list at n is changed -/
theorem put_lst {K : PySem.W.Frag} {B : Lo} {H : Hp} {s : Sto} {d : Dv} {v : V} {Q : VK} {n : Nat} {a : Addr} {ds : List Dv} {xs : List V} (S : Sim K B H s) (h : B.locs[n]? = some a) (r : Rps K B H ds xs) (q : PostZ K B H (s.set n (.lst ds)) d Q) (hd : Rp K B H d v) : Q v (upd H a (.lst xs)) := by
  have x := Ext.write (o := .lst xs) S h
  exact q B _ v x rfl (S.write h ⟨xs, upd_same, r.mono x.mo⟩) (hd.mono x.mo)
theorem mz_append {K : PySem.W.Frag} : MtZ K rAppend gAppend := by
  intro B H s x xs v vs d s' Q S r rs h q
  unfold gAppend at h
  split at h
  · split at h
    · rename_i ds e1
      obtain ⟨hz, h⟩ := Rs.iff_ok h
      cases h
      obtain ⟨a, us, rfl, h1, h2, h3⟩ := loc_lst S r e1
      cases rs with
      | cons r1 rr =>
        cases rr
        refine ⟨a, us, _, rfl, rfl, h2, ?_, put_lst S h1 (h3.append (.cons r1 .nil)) q .non⟩
        rw [← h3.length, sizeLine_eq]; exact of_decide_eq_true hz
    · cases h
  · cases h
theorem z_append (ho : ZE X o fo) (ha : ZA X [e] fs) (hbase : attributeBase o "append" X.env (eval o X.env) = eval o X.env := by rfl) (hline : (apos.endLine == cpos.line) = true := by rfl) (hs : starEach [e] X.env = (false, eval e X.env) :: starEach [] X.env := by rfl) :
    ZE X (.Call (.Attribute o "append" apos) [e] [] cpos) (fMt isL gAppend fo fs) :=
  pe_mono (pe_bm PySem.F.plainAttrs_list PySem.F.slot_list_append PySem.F.type_list_append mt_append ho ha hbase (by rw [hs]; rfl) hline hs rfl) (mt_to ty_l mz_append)
def gExtend (x : Dv) (xs : List Dv) (s : Sto) : Rs Dv := match x, xs with
  | .loc n, [.ls es] => match s[n]? with
    | some (.lst ds) => Rs.iff (decide (ds.length + es.length ≤ 16777216)) (.ok .non (s.set n (.lst (ds ++ es))))
    | _ => .bad
  | _, _ => .bad
/-- extend by a list just made -/
def rExtendZ (K : PySem.W.Frag) : V → List V → Hp → VK → Prop := fun x vs H Q => ∃ l b xs zs, x = .ref l ∧ vs = [.ref b] ∧ H l = some (.lst xs) ∧ H b = some (.lst zs) ∧ xs.length + zs.length ≤ sizeLine ∧ Q .non (upd H l (.lst (xs ++ zs)))
def fExtend (fo : Fn Dv) (fl : Fn (List Dv)) : Fn Dv := fun env s => (fo env s).bind fun x s1 => Rs.iff (isL x s1) ((fl env s1).bind fun es s2 => gExtend x [.ls es] s2)
/-- pop(i) -/
def gPopAt (x : Dv) (xs : List Dv) (s : Sto) : Rs Dv := match x, xs with
  | .loc n, [.int i] => match s[n]? with
    | some (.lst ds) => match ixN ds.length i with
      | some j => match ds[j]? with | some d => Rs.iff (inRng i) (.ok d (s.set n (.lst (ds.eraseIdx j)))) | none => .bad
      | none => .bad
    | _ => .bad
  | _, _ => .bad
theorem mz_popAt {K : PySem.W.Frag} : MtZ K rPopAt gPopAt := by
  intro B H s x xs v vs d s' Q S r rs h q
  unfold gPopAt at h
  split at h
  · split at h
    · rename_i ds e1
      split at h
      · rename_i j e2
        split at h
        · rename_i d' e3
          obtain ⟨hz, h⟩ := Rs.iff_ok h
          cases h
          obtain ⟨a, us, rfl, h1, h2, h3⟩ := loc_lst S r e1
          obtain ⟨z1, z2⟩ := inRng_ok hz
          cases rs with
          | cons r1 rr =>
            cases r1; cases rr
            obtain ⟨u, h4, h5⟩ := h3.get e3
            rw [h3.length] at e2
            exact ⟨a, us, _, j, u, rfl, rfl, h2, by omega, by omega, (ixN_seq e2).1, h4, put_lst S h1 (h3.eraseIdx j) q h5⟩
        · cases h
      · cases h
    · cases h
  · cases h
theorem z_popAt (ho : ZE X o fo) (ha : ZA X [e] fs) (hbase : attributeBase o "pop" X.env (eval o X.env) = eval o X.env := by rfl) (hline : (apos.endLine == cpos.line) = true := by rfl) (hs : starEach [e] X.env = (false, eval e X.env) :: starEach [] X.env := by rfl) :
    ZE X (.Call (.Attribute o "pop" apos) [e] [] cpos) (fMt isL gPopAt fo fs) :=
  pe_mono (pe_bm PySem.F.plainAttrs_list PySem.F.slot_list_pop PySem.F.type_list_pop mt_popAt ho ha hbase (by rw [hs]; rfl) hline hs rfl) (mt_to ty_l mz_popAt)
/-- index -/
def idxV (v : V) (vs : List V) : Option Nat := vs.findIdx? fun u => eqV u v
theorem seqL_of {K : PySem.W.Frag} {B : Lo} {H : Hp} {s : Sto} (S : Sim K B H s) {d : Dv} {v : V} {ds : List Dv} (r : Rp K B H d v) (hl : isL d s = true) (h : seqOf s d = some ds) : ∃ a xs, v = .ref a ∧ SqL K H a xs ∧ Rps K B H ds xs := by
  cases r with
  | ls h1 h2 => cases h; exact ⟨_, _, rfl, h1.sq, h2⟩
  | loc h1 =>
    obtain ⟨o, ho, ro⟩ := S.at h1
    simp only [seqOf, ho] at h
    cases o with
    | lst es =>
      cases h
      obtain ⟨xs, e1, e2⟩ := ro
      exact ⟨_, xs, rfl, .of e1, e2⟩
    | _ => cases h
  | _ => cases hl
def gIndexL (x : Dv) (xs : List Dv) (s : Sto) : Rs Dv := match xs with
  | [y] => match fV y, (seqOf s x).bind (·.mapM fV) with
    | some v, some vs => match idxV v vs with | some j => Rs.iff (isL x s) (.ok (.int (j : Nat)) s) | none => .bad
    | _, _ => .bad
  | _ => .bad
def strsOf : List Dv → Option (List Str)
  | [] => some []
  | .str z :: r => (strsOf r).map (z :: ·)
  | _ => none
theorem strs_rp {K : PySem.W.Frag} {B : Lo} {H : Hp} : ∀ {ds : List Dv} {vs : List V} {zs : List Str}, Rps K B H ds vs → strsOf ds = some zs → vs = zs.map V.str
  | _, _, _, .nil, h => by cases h; rfl
  | _, _, _, .cons r rr, h => by
    cases r with
    | str x =>
      obtain ⟨t, h1, rfl⟩ := Option.map_eq_some_iff.mp h
      rw [strs_rp rr h1]; rfl
    | _ => cases h
def gIndexT (x : Dv) (xs : List Dv) (s : Sto) : Rs Dv := match x, xs with
  | .tup ds, [.str z] => match strsOf ds with
    | some zs => match zs.findIdx? (· == z) with | some j => .ok (.int (j : Nat)) s | none => .bad
    | none => .bad
  | _, _ => .bad
theorem mz_indexL {K : PySem.W.Frag} : MtZ K (rIndex K) gIndexL := by
  intro B H s x xs v vs d s' Q S r rs h q
  unfold gIndexL at h
  split at h
  · split at h
    · rename_i u us e1 e2
      split at h
      · rename_i j e3
        obtain ⟨hl, h⟩ := Rs.iff_ok h
        cases h
        obtain ⟨ds, e4, e5⟩ := Option.bind_eq_some_iff.mp e2
        cases rs with
        | cons r1 rr =>
          cases rr
          obtain ⟨rfl, f1⟩ := fV_of r1 e1
          obtain ⟨a, ws, rfl, hq, rr⟩ := seqL_of S r hl e4
          obtain ⟨rfl, f2⟩ := fVs_of rr e5
          obtain ⟨h1, h2, h3⟩ := List.findIdx?_eq_some_iff_getElem.mp e3
          exact ⟨a, ws, _, j, ws[j], rfl, rfl, hq, f1, f2, List.getElem?_eq_getElem h1, h2, fun m z hm hz => by
            obtain ⟨q1, q2⟩ := List.getElem?_eq_some_iff.mp hz
            have := h3 m hm
            rw [← q2]; simpa using this, q.same S (.int _)⟩
      · cases h
    · cases h
  · cases h
theorem mz_indexT {K : PySem.W.Frag} : MtZ K (fun x xs H Q => ∃ p, ∃ ys : List Str, ∃ z j, x = .ref p ∧ xs = [.str z] ∧ SqT K H p (ys.map V.str) ∧ ys[j]? = some z ∧ (∀ m, m < j → ys[m]? ≠ some z) ∧ Q (.int (j : Nat)) H) gIndexT := by
  intro B H s x xs v vs d s' Q S r rs h q
  unfold gIndexT at h
  split at h
  · split at h
    · rename_i zs e1
      split at h
      · rename_i j e2
        cases h
        cases r with
        | tup h1 h2 =>
          cases rs with
          | cons r1 rr =>
            cases r1; cases rr
            have := strs_rp h2 e1
            subst this
            obtain ⟨g1, g2, g3⟩ := List.findIdx?_eq_some_iff_getElem.mp e2
            have g2 := beq_iff_eq.mp g2
            exact ⟨_, zs, _, j, rfl, rfl, h1.sq, by rw [← g2]; exact List.getElem?_eq_getElem g1, fun m hm hz => by
              obtain ⟨q1, q2⟩ := List.getElem?_eq_some_iff.mp hz
              have := g3 m hm
              rw [q2] at this
              simp at this, q.same S (.int _)⟩
      · cases h
    · cases h
  · cases h
/-- index of a list or of a tuple of texts -/
def fIndex (fo : Fn Dv) (fs : Fn (List Dv)) : Fn Dv := fun env s => (fo env s).bind fun x s1 => if isT x s1 = true then (fs env s1).bind fun xs s2 => gIndexT x xs s2 else Rs.iff (isL x s1) ((fs env s1).bind fun xs s2 => gIndexL x xs s2)
theorem z_index (ho : ZE X o fo) (ha : ZA X [e] fs) (hbase : attributeBase o "index" X.env (eval o X.env) = eval o X.env := by rfl) (hline : (apos.endLine == cpos.line) = true := by rfl) (hs : starEach [e] X.env = (false, eval e X.env) :: starEach [] X.env := by rfl) :
    ZE X (.Call (.Attribute o "index" apos) [e] [] cpos) (fIndex fo fs) := by
  have h1 : ZE X (.Call (.Attribute o "index" apos) [e] [] cpos) (fMt isT gIndexT fo fs) := pe_mono (pe_mtT PySem.F.slot_tuple_index PySem.F.plainAttrs_tuple PySem.F.type_tuple_index mt_tup_index ho ha hbase (by rw [hs]; rfl) hline hs rfl) (mt_to ty_t mz_indexT)
  have h2 : ZE X (.Call (.Attribute o "index" apos) [e] [] cpos) (fMt isL gIndexL fo fs) := pe_mono (pe_bm PySem.F.plainAttrs_list PySem.F.slot_list_index PySem.F.type_list_index mt_index ho ha hbase (by rw [hs]; rfl) hline hs rfl) (mt_to ty_l mz_indexL)
  refine pe_mono (pe_alt h1 h2) fun σ H Q q => ?_
  obtain ⟨B, env, s, d, s', hE, hS, hf, hQ⟩ := q
  obtain ⟨x, s1, g1, hf⟩ := Rs.bind_ok hf
  split at hf
  · rename_i hc
    exact .inl ⟨B, env, s, d, s', hE, hS, by unfold fMt; rw [g1]; show Rs.iff (isT x s1) _ = _; rw [hc]; exact hf, hQ⟩
  · exact .inr ⟨B, env, s, d, s', hE, hS, by unfold fMt; rw [g1]; exact hf, hQ⟩
end
end Z

namespace Z
open PySem PySem.Spec PyProof.Rows L2

/-! ### o[i] = v -/
def putD {κ : Type} [DecidableEq κ] (kvs : List (κ × Dv)) (k : κ) (v : Dv) : List (κ × Dv) :=
  if (kvs.any fun kv => decide (kv.1 = k)) = true then kvs.map (fun kv => if kv.1 = k then (kv.1, v) else kv) else kvs ++ [(k, v)]
def keyD : Dv → Option Key
  | .int i => some (.inl i)
  | .str z => some (.inr z)
  | _ => none
def gPut (x y d : Dv) (s : Sto) : Rs Unit := match x with
  | .loc n => match s[n]? with
    | some (.lst ds) => match y with
      | .int i => match ixN ds.length i with | some j => .ok () (s.set n (.lst (ds.set j d))) | none => .bad
      | _ => .bad
    | some (.dk kvs) => match keyD y with | some k => Rs.iff (decide (kvs.length < 16777216)) (.ok () (s.set n (.dk (putD kvs k d)))) | none => .bad
    | _ => .bad
  | _ => .bad
theorem gPut_cases {x y d : Dv} {s s' : Sto} {u : Unit} (h : gPut x y d s = .ok u s') : ∃ n, x = .loc n ∧ ((∃ ds i j, s[n]? = some (.lst ds) ∧ y = .int i ∧ ixN ds.length i = some j ∧ s' = s.set n (.lst (ds.set j d))) ∨
    ∃ kvs k, s[n]? = some (.dk kvs) ∧ keyD y = some k ∧ kvs.length < 16777216 ∧ s' = s.set n (.dk (putD kvs k d))) := by
  cases x with
  | loc n =>
    refine ⟨n, rfl, ?_⟩
    unfold gPut at h
    simp only at h
    split at h
    · rename_i ds e
      split at h
      · split at h
        · rename_i j e2
          cases h
          exact .inl ⟨ds, _, j, e, rfl, e2, rfl⟩
        · cases h
      · cases h
    · rename_i kvs e
      split at h
      · rename_i k e2
        obtain ⟨hz, h⟩ := Rs.iff_ok h
        cases h
        exact .inr ⟨kvs, k, e, e2, of_decide_eq_true hz, rfl⟩
      · cases h
    · cases h
  | _ => cases h
theorem key_rp {K : PySem.W.Frag} {B : Lo} {H : Hp} {y : Dv} {w : V} {k : Key} (r : Rp K B H y w) (h : keyD y = some k) : w = kV k := by
  cases r with
  | int i => cases h; rfl
  | str i => cases h; rfl
  | _ => cases h
theorem any_rp {K : PySem.W.Frag} {B : Lo} {H : Hp} {κ : Type} [DecidableEq κ] {k : κ} : ∀ {kvs : List (κ × Dv)} {ks : List (κ × V)}, Paired (fun (p : κ × Dv) (q : κ × V) => p.1 = q.1 ∧ Rp K B H p.2 q.2) kvs ks →
    (kvs.any fun kv => decide (kv.1 = k)) = ks.any fun kv => decide (kv.1 = k)
  | _, _, .nil => rfl
  | _, _, .cons ⟨e, _⟩ t => by simp only [List.any_cons, e, any_rp t]
theorem map_rp {K : PySem.W.Frag} {B : Lo} {H : Hp} {κ : Type} [DecidableEq κ] {k : κ} {d : Dv} {v : V} (r : Rp K B H d v) : ∀ {kvs : List (κ × Dv)} {ks : List (κ × V)}, Paired (fun (p : κ × Dv) (q : κ × V) => p.1 = q.1 ∧ Rp K B H p.2 q.2) kvs ks →
    Paired (fun (p : κ × Dv) (q : κ × V) => p.1 = q.1 ∧ Rp K B H p.2 q.2) (kvs.map fun kv => if kv.1 = k then (kv.1, d) else kv) (ks.map fun kv => if kv.1 = k then (kv.1, v) else kv)
  | _, _, .nil => .nil
  | (k1, d1) :: _, (k2, v2) :: _, .cons ⟨e, q⟩ t => by
    have e : k1 = k2 := e
    subst e
    refine .cons ?_ (map_rp r t)
    by_cases h : k1 = k
    · dsimp only; rw [if_pos h, if_pos h]; exact ⟨rfl, r⟩
    · dsimp only; rw [if_neg h, if_neg h]; exact ⟨rfl, q⟩
theorem paired_snoc {α β : Type} {F : α → β → Prop} {a : α} {b : β} (r : F a b) : ∀ {l : List α} {m : List β}, Paired F l m → Paired F (l ++ [a]) (m ++ [b])
  | _, _, .nil => .cons r .nil
  | _, _, .cons h t => .cons h (paired_snoc r t)
theorem put_rp {K : PySem.W.Frag} {B : Lo} {H : Hp} {κ : Type} [DecidableEq κ] {k : κ} {d : Dv} {v : V} (r : Rp K B H d v) {kvs : List (κ × Dv)} {ks : List (κ × V)} (p : Paired (fun (p : κ × Dv) (q : κ × V) => p.1 = q.1 ∧ Rp K B H p.2 q.2) kvs ks) :
    Paired (fun (p : κ × Dv) (q : κ × V) => p.1 = q.1 ∧ Rp K B H p.2 q.2) (putD kvs k d) (putK ks k v) := by
  unfold putD putK
  rw [any_rp p]
  split
  · exact map_rp r p
  · exact paired_snoc ⟨rfl, r⟩ p
theorem paired_len {α β : Type} {F : α → β → Prop} : ∀ {l : List α} {m : List β}, Paired F l m → l.length = m.length
  | _, _, .nil => rfl
  | _, _, .cons _ t => congrArg (· + 1) (paired_len t)
section
variable {G : Gz} {bs : List Str} {k : Nat} {X : Cx} {N : List Str} {nm : List (Str × NameKind)} {ow : Str → Bool} {a b e o i v : Expr} {es : List Expr} {fa fb fc fo fi fv : Fn Dv} {fs : Fn (List Dv)} {pos p apos cpos tpos : Pos} {x y z name : Str}
def fPut (fo fi fv : Fn Dv) : Fn Ct := fun env s => (fv env s).bind fun d s1 => (fo env s1).bind fun x s2 => (fi env s2).bind fun y s3 => (gPut x y d s3).bind fun _ s4 => .ok (.next env) s4
/-- a thing of the store at n is changed -/
theorem put_any {K : PySem.W.Frag} {B : Lo} {H : Hp} {s : Sto} {n : Nat} {a : Addr} {u : Ob} {h : HO} {R : Hp → Prop} (S : Sim K B H s) (hl : B.locs[n]? = some a) (r : Ext B H B (upd H a h) → RpO K B (upd H a h) a u)
    (q : ∀ (B' : Lo) (H' : Hp), Ext B H B' H' → B'.hid = B.hid → Sim K B' H' (s.set n u) → R H') : R (upd H a h) := by
  have x := Ext.write (o := h) S hl
  exact q B _ x rfl (S.write hl (r x))
theorem z_put (c : Cz G bs k X N nm ow) (ho : ZE X o fo) (hi : ZE X i fi) (hv : ZE X v fv) (hs : swapsWith v (some (.Subscript o i tpos)) pos.line X.env = pure false := by rfl) (hsole : swapsWithSole [.Subscript o i tpos] v pos.line X.env = pure false := by rfl)
    (hsw : swappedStores [.Subscript o i tpos] v X.env = pure none := by rfl) (ha : ∀ u, assign (.Subscript o i tpos) X.env u = (do
      let ov ← holding [u] (eval o X.env)
      let iv ← holding [u, ov] (eval i X.env)
      standAt tpos
      holding [u, ov, iv] (setItem ov iv u)
      release [u, ov, iv] []) := by intro _; rfl) (h1 : (assignEach [.Subscript o i tpos] X.env).map (·.2) = [assign (.Subscript o i tpos) X.env] := by rfl) :
    ZS X (.Assign [.Subscript o i tpos] v pos) (fPut fo fi fv) := by
  refine ps_mono (ps_alt (ps_asg hv (pg_sub ho hi set_list ha) hsole hsw h1) (ps_dput (hu_of c.rm) ho hi hv hs)) fun D σ H q => ?_
  obtain ⟨B, env, s, ct, s', hE, hS, hf, hQ⟩ := q
  obtain ⟨d, s1, h1, hf⟩ := Rs.bind_ok hf
  obtain ⟨xo, s2, h2, hf⟩ := Rs.bind_ok hf
  obtain ⟨yi, s3, h3, hf⟩ := Rs.bind_ok hf
  obtain ⟨_, s4, h4, hf⟩ := Rs.bind_ok hf
  cases hf
  obtain ⟨n, rfl, hg⟩ := gPut_cases h4
  rcases hg with ⟨ds, ii, j, g1, rfl, g2, rfl⟩ | ⟨kvs, ky, g1, g2, g3, rfl⟩
  · left
    refine ⟨B, env, s, _, _, hE, hS, h1, fun B1 H1 v1 x1 e1 S1 r1 => ?_⟩
    refine ⟨B1, env, s1, _, _, hE.mono x1.mo, S1, h2, fun B2 H2 v2 x2 e2 S2 r2 => ?_⟩
    refine ⟨B2, env, s2, _, _, hE.mono (x1.trans x2).mo, S2, h3, fun B3 H3 v3 x3 e3 S3 r3 => ?_⟩
    obtain ⟨a, us, rfl, h5, h6, h7⟩ := loc_lst S3 (r2.mono x3.mo) g1
    cases r3
    refine ⟨a, us, _, j, rfl, rfl, h6, by rw [← h7.length]; exact g2, ?_⟩
    have xx := x1.trans (x2.trans x3)
    refine put_any (u := .lst (ds.set j d)) (R := fun H' => D.nx σ H') S3 h5 (fun x => ⟨_, upd_same, (h7.set j (r1.mono (x2.trans x3).mo)).mono x.mo⟩) fun B4 H4 x4 e4 S4 => ?_
    exact hQ B4 H4 σ (xx.trans x4) (e4.trans (e3.trans (e2.trans e1))) S4 (hE.mono (xx.trans x4).mo)
  · right
    refine ⟨B, env, s, _, _, hE, hS, h1, fun B1 H1 v1 x1 e1 S1 r1 => ?_⟩
    refine ⟨B1, env, s1, _, _, hE.mono x1.mo, S1, h2, fun B2 H2 v2 x2 e2 S2 r2 => ?_⟩
    refine ⟨B2, env, s2, _, _, hE.mono (x1.trans x2).mo, S2, h3, fun B3 H3 v3 x3 e3 S3 r3 => ?_⟩
    cases r2.mono x3.mo with
    | loc hl =>
      obtain ⟨o, ho, ro⟩ := S3.at hl
      rw [g1] at ho; cases ho
      obtain ⟨ks, h5, h6⟩ := ro
      rw [key_rp r3 g2]
      refine ⟨_, _, rfl, DPut.k h5 (by rw [← paired_len h6, sizeLine_eq]; exact g3), ?_⟩
      have xx := x1.trans (x2.trans x3)
      refine put_any (u := .dk (putD kvs ky d)) (R := fun H' => D.nx σ H') S3 hl (fun x => ⟨_, upd_same, Paired.mapP (put_rp (k := ky) (r1.mono (x2.trans x3).mo) h6) fun p q z => ⟨z.1, z.2.mono x.mo⟩⟩) fun B4 H4 x4 e4 S4 => ?_
      exact hQ B4 H4 σ (xx.trans x4) (e4.trans (e3.trans (e2.trans e1))) S4 (hE.mono (xx.trans x4).mo)

/-! ### o[i] += v -/
def gIxL (x y : Dv) (s : Sto) : Rs Dv := match x, y with
  | .loc n, .int i => match s[n]? with
    | some (.lst ds) => match atI ds i with | some d => .ok d s | none => .bad
    | _ => .bad
  | _, _ => .bad
def gPutL (x y d : Dv) (s : Sto) : Rs Unit := match x, y with
  | .loc n, .int i => match s[n]? with
    | some (.lst ds) => match ixN ds.length i with | some j => .ok () (s.set n (.lst (ds.set j d))) | none => .bad
    | _ => .bad
  | _, _ => .bad
def gIxD (x y : Dv) (s : Sto) : Rs Dv := match x, keyD y with
  | .loc n, some k => match s[n]? with
    | some (.dk kvs) => match lookK kvs k with | some d => .ok d s | none => .bad
    | _ => .bad
  | _, _ => .bad
def gPutK (x y d : Dv) (s : Sto) : Rs Unit := match x, keyD y with
  | .loc n, some k => match s[n]? with
    | some (.dk kvs) => Rs.iff (decide (kvs.length < 16777216)) (.ok () (s.set n (.dk (putD kvs k d))))
    | _ => .bad
  | _, _ => .bad
def augWay (gi : Dv → Dv → Sto → Rs Dv) (gp : Dv → Dv → Dv → Sto → Rs Unit) (g : Int → Int → Int) (fi fv : Fn Dv) (x : Dv) : Fn Ct := fun env s1 => (fi env s1).bind fun y s2 => (gi x y s2).bind fun old s3 => (fv env s3).bind fun d s4 => (gI (fun i j => .int (g i j)) old d s4).bind fun new s5 =>
  (gp x y new s5).bind fun _ s6 => .ok (.next env) s6
/-- xs[i] += n, of a list or a dict of the store -/
def fAug (g : Int → Int → Int) (fo fi fv : Fn Dv) : Fn Ct := fun env s => (fo env s).bind fun x s1 => if isL x s1 = true then augWay gIxL gPutL g fi fv x env s1 else augWay gIxD gPutK g fi fv x env s1
end
end Z

namespace Z
open PySem PySem.Spec PyProof.Rows L2

/-! ### how stores go, by the scope's names alone -/
def dE (nm : List (Str × NameKind)) : Env := { scope := scD nm, locals := 0, globals := 0, cells := [], qual := Str.empty, func := none, code := .none, frame := none, builtins := 0 }
section
variable {G : Gz} {bs : List Str} {k : Nat} {X : Cx} {N : List Str} {nm : List (Str × NameKind)} {ow : Str → Bool} {a b e o i v : Expr} {es : List Expr} {fa fb fc fo fi fv : Fn Dv} {fs : Fn (List Dv)} {pos p apos cpos tpos : Pos} {x y z name : Str}
theorem Cz.kO (c : Cz G bs k X N nm ow) : ∀ id, X.env.kindOf id = (dE nm).kindOf id := fun id => by show X.env.scope.names.lookup _ = nm.lookup _; rw [c.nm]
theorem Cz.bK (c : Cz G bs k X N nm ow) : X.env.blockKind = (dE nm).blockKind := by unfold Env.blockKind; rw [c.kd]; rfl
theorem Cz.sW (c : Cz G bs k X N nm ow) {t : Option Expr} {value : Expr} {l : Nat} : swapsWith value t l X.env = swapsWith value t l (dE nm) := by
  have h : (X.env.scope.kind == ScopeKind.class) = ((dE nm).scope.kind == ScopeKind.class) := by rw [c.kd]; rfl
  unfold swapsWith
  simp only [c.kO, c.bK, h]
/-- a, b = x, y, stored from the right -/
def fPar2 (i j : Nat) (f : Fn (List Dv)) : Fn Ct := fun env s => (f env s).bind fun ds s1 => match ds with | [d, e] => .ok (.next ((env.set i (some d)).set j (some e))) s1 | _ => .bad
theorem lcl (c : Cz G bs k X N nm ow) (h : (nm.lookup x == some .local) = true) : X.env.scope.names.lookup x = some .local := by rw [c.nm]; exact beq_iff_eq.mp h
def fPar3 (i j l : Nat) (f : Fn (List Dv)) : Fn Ct := fun env s => (f env s).bind fun ds s1 => match ds with | [d, e, h] => .ok (.next (((env.set i (some d)).set j (some e)).set l (some h))) s1 | _ => .bad
/-! x = [..], x a local name on the comprehension's line -/
theorem val_to {K : PySem.W.Frag} {f : Fn (List Dv)} {te : TE} (h : ∀ σ H Q, tOfL K f σ H Q → te σ H Q) : ∀ σ H Q, tOf K (fVal f) σ H Q → te σ H Q := fun σ H Q q => by
  obtain ⟨B, env, s, d', s', hE, hS, hf, hQ⟩ := q
  obtain ⟨ds, s1, h1, hf⟩ := Rs.bind_ok hf
  cases hf
  refine h _ _ _ ⟨B, env, s, _, _, hE, hS, h1, fun B1 H1 p xs x1 e1 S1 hh hn hl r1 => ?_⟩
  exact hQ ⟨B1.locs, B1.hid⟩ H1 _ (x1.drop fun b hb => by rw [e1]; exact hb) e1 S1.back (.ls (.inl ⟨hl, (S1.hid p List.mem_cons_self).1, hh⟩) (r1.mono Mo.back))
variable {elt tg iter : Expr} {ifs : List Expr} {scope : Scope} {q : Bool} {fsr : Fn Src} {is : List Nat} {g : Dv → Fn En} {tt : Fn Bool} {te : Fn Dv}
theorem z_setLcW {spos py : Pos} {i : Nat} (c : Cz G bs k X N nm ow) (own : List (Str × Nat)) (hi : ZI X q tg iter fsr)
    (hin : ∀ X' : Cx, Cz G bs k X' N (relN nm scope.names) (ownN scope.names) → ZG X' q is tg g ∧ ZTs X' ifs tt ∧ ZE X' elt te) (wrap : Fn (List Dv) → Fn Dv) (hwr : ∀ {te' : TE}, (∀ σ H Q, tOfL X.K (fLc fsr (own.map (·.2)) g tt te) σ H Q → te' σ H Q) → ∀ σ H Q, tOf X.K (wrap (fLc fsr (own.map (·.2)) g tt te)) σ H Q → te' σ H Q)
    (hy : decide (N[i]? = some y) = true) (hyl : (nm.lookup y == some .local) = true) (hsw : swapsWith (.ListComp elt [⟨tg, iter, ifs, 0⟩] scope pos) (some (.Name y py)) spos.line (dE nm) = pure true)
    (ok : blkZ N nm scope own = true) (hk : scope.kind = .function) (his : is.all (fun i => (own.map (·.2)).contains i) = true) (hs : ∀ x, foldedSetIterable iter X.env x = pure x) :
    ZS X (.Assign [.Name y py] (.ListComp elt [⟨tg, iter, ifs, 0⟩] scope pos) spos) (fSet i (wrap (fLc fsr (own.map (·.2)) g tt te))) := by
  have nd : X.N.Nodup := by rw [c.hN]; exact c.nd
  have hcs := fun s H C cl fp => hin _ (c.blk hk s H C cl fp)
  refine ps_mono (ps_setLc (own := own) c.calm nd (by rw [c.hN]; exact of_decide_eq_true hy) (lcl c hyl) (c.sW.trans hsw) hi (c.blkOk ok) (fun s H C cl fp => (hcs s H C cl fp).1) (fun s H C cl fp => (hcs s H C cl fp).2.1) (fun s H C cl fp => (hcs s H C cl fp).2.2) hs) (set_to (hwr (lc_to fun i hi => ?_)))
  exact List.contains_iff_mem.mp (List.all_eq_true.mp his i hi)
theorem z_setLc {spos py : Pos} {i : Nat} (c : Cz G bs k X N nm ow) (own : List (Str × Nat)) (hi : ZI X q tg iter fsr)
    (hin : ∀ X' : Cx, Cz G bs k X' N (relN nm scope.names) (ownN scope.names) → ZG X' q is tg g ∧ ZTs X' ifs tt ∧ ZE X' elt te)
    (hy : decide (N[i]? = some y) = true := by decide +kernel) (hyl : (nm.lookup y == some .local) = true := by decide +kernel) (hsw : swapsWith (.ListComp elt [⟨tg, iter, ifs, 0⟩] scope pos) (some (.Name y py)) spos.line (dE nm) = pure true := by rfl)
    (ok : blkZ N nm scope own = true := by decide +kernel) (hk : scope.kind = .function := by rfl) (his : is.all (fun i => (own.map (·.2)).contains i) = true := by decide +kernel) (hs : ∀ x, foldedSetIterable iter X.env x = pure x := by intro _; rfl) :
    ZS X (.Assign [.Name y py] (.ListComp elt [⟨tg, iter, ifs, 0⟩] scope pos) spos) (fSet i (fVal (fLc fsr (own.map (·.2)) g tt te))) := z_setLcW c own hi hin fVal (fun h => val_to h) hy hyl hsw ok hk his hs
end
end Z

namespace Z
open PySem PySem.Spec PyProof.Rows L2

/-! ### {k: v, ..} -/
def fPairs : List (Fn Dv × Fn Dv) → Fn (List (Dv × Dv))
  | [], _, s => .ok [] s
  | (fk, fv) :: r, env, s => (fk env s).bind fun k s1 => (fv env s1).bind fun v s2 => (fPairs r env s2).bind fun ps s3 => .ok ((k, v) :: ps) s3
def keysD : List (Dv × Dv) → Option (List (Key × Dv))
  | [] => some []
  | (k, v) :: r => match keyD k, keysD r with | some k', some r' => some ((k', v) :: r') | _, _ => none
def mergeD (kvs more : List (Key × Dv)) : List (Key × Dv) := more.foldl (fun acc kv => putD acc kv.1 kv.2) kvs
def fDict (fs : List (Fn Dv × Fn Dv)) : Fn Dv := fun env s => (fPairs fs env s).bind fun ps s1 => match keysD ps with
  | some kvs => Rs.iff (decide (kvs.length ≤ 15)) (.ok (.loc s1.length) (s1 ++ [.dk (mergeD [] kvs)]))
  | none => .bad
section
variable {G : Gz} {bs : List Str} {k : Nat} {X : Cx} {N : List Str} {nm : List (Str × NameKind)} {ow : Str → Bool} {a b e o i v : Expr} {es : List Expr} {fa fb fc fo fi fv : Fn Dv} {fs : Fn (List Dv)} {pos p apos cpos tpos : Pos} {x y z name : Str}
abbrev ZPs (X : Cx) (pos : Pos) (ks : List (Option Expr)) (vs : List Expr) (fs : List (Fn Dv × Fn Dv)) : Prop := PPs X pos ks vs (fs.map fun p => (tOf X.K p.1, tOf X.K p.2))
theorem zps_nil : ZPs X pos [] [] [] := pps_nil
theorem zps_cons {kk : Expr} {ks : List (Option Expr)} {vs : List Expr} {fr : List (Fn Dv × Fn Dv)} (hk : ZE X kk fa) (hv : ZE X v fv) (hr : ZPs X pos ks vs fr) : ZPs X pos (some kk :: ks) (v :: vs) ((fa, fv) :: fr) := pps_cons hk hv hr
abbrev RpPs (K : PySem.W.Frag) (B : Lo) (H : Hp) : List (Dv × Dv) → List (V × V) → Prop := Paired fun p q => Rp K B H p.1 q.1 ∧ Rp K B H p.2 q.2
theorem pairs_to {K : PySem.W.Frag} : ∀ {fs : List (Fn Dv × Fn Dv)} {σ : L2.St} {H : Hp} {B : Lo} {env : En} {s s' : Sto} {ps : List (Dv × Dv)} {Q : List (V × V) → Hp → Prop}, RpE K B H env σ → Sim K B H s → fPairs fs env s = .ok ps s' →
    (∀ (B' : Lo) (H' : Hp) (qs : List (V × V)), Ext B H B' H' → B'.hid = B.hid → Sim K B' H' s' → RpPs K B' H' ps qs → Q qs H') → tPairs (fs.map fun p => (tOf K p.1, tOf K p.2)) σ H Q
  | [], _, _, _, _, _, _, _, _, hE, hS, hf, hQ => by
    cases hf
    exact hQ _ _ [] (Ext.refl _ _) rfl hS .nil
  | (fk, fv) :: r, _, _, B, env, s, s', ps, Q, hE, hS, hf, hQ => by
    obtain ⟨kd, s1, h1, hf⟩ := Rs.bind_ok hf
    obtain ⟨vd, s2, h2, hf⟩ := Rs.bind_ok hf
    obtain ⟨rd, s3, h3, hf⟩ := Rs.bind_ok hf
    cases hf
    refine ⟨B, env, s, _, _, hE, hS, h1, fun B1 H1 v1 x1 e1 S1 r1 => ?_⟩
    refine ⟨B1, env, s1, _, _, hE.mono x1.mo, S1, h2, fun B2 H2 v2 x2 e2 S2 r2 => ?_⟩
    refine pairs_to (hE.mono (x1.trans x2).mo) S2 h3 fun B3 H3 qs x3 e3 S3 r3 => ?_
    exact hQ B3 H3 _ (x1.trans (x2.trans x3)) (e3.trans (e2.trans e1)) S3 (.cons ⟨r1.mono (x2.trans x3).mo, r2.mono x3.mo⟩ r3)
theorem keys_rp {K : PySem.W.Frag} {B : Lo} {H : Hp} : ∀ {ps : List (Dv × Dv)} {qs : List (V × V)} {kvs : List (Key × Dv)}, RpPs K B H ps qs → keysD ps = some kvs →
    ∃ ks : List (Key × V), qs = ks.map (fun kv => (kV kv.1, kv.2)) ∧ Paired (fun (p : Key × Dv) (q : Key × V) => p.1 = q.1 ∧ Rp K B H p.2 q.2) kvs ks
  | _, _, _, .nil, h => by cases h; exact ⟨[], rfl, .nil⟩
  | (d1, d2) :: _, (v1, v2) :: _, _, .cons ⟨r1, r2⟩ t, h => by
    unfold keysD at h
    split at h
    · rename_i k' r' e1 e2
      cases h
      obtain ⟨ks, rfl, h3⟩ := keys_rp t e2
      have hk : v1 = kV k' := key_rp (show Rp K B H d1 v1 from r1) e1
      subst hk
      exact ⟨(k', v2) :: ks, rfl, .cons ⟨rfl, r2⟩ h3⟩
    · cases h
theorem merge_rp {K : PySem.W.Frag} {B : Lo} {H : Hp} : ∀ {more : List (Key × Dv)} {ms : List (Key × V)} {kvs : List (Key × Dv)} {ks : List (Key × V)}, Paired (fun (p : Key × Dv) (q : Key × V) => p.1 = q.1 ∧ Rp K B H p.2 q.2) more ms →
    Paired (fun (p : Key × Dv) (q : Key × V) => p.1 = q.1 ∧ Rp K B H p.2 q.2) kvs ks → Paired (fun (p : Key × Dv) (q : Key × V) => p.1 = q.1 ∧ Rp K B H p.2 q.2) (mergeD kvs more) (mergeK ks ms)
  | _, _, _, _, .nil, h => h
  | (k1, d1) :: m, (k2, v2) :: m', kvs, ks, .cons ⟨e, r⟩ t, h => by
    have e : k1 = k2 := e
    subst e
    exact merge_rp (kvs := putD kvs k1 d1) (ks := putK ks k1 v2) t (put_rp r h)
theorem z_dict {keys : List (Option Expr)} {values : List Expr} {fr : List (Fn Dv × Fn Dv)} (h : ZPs X pos keys values fr) (hall : keys.all (·.isSome) = true := by rfl) (hl : keys.length = values.length := by rfl) (h0 : keys ≠ [] := by exact List.cons_ne_nil _ _) (h15 : keys.length ≤ 15 := by decide) :
    ZE X (.Dict keys values pos) (fDict fr) := by
  refine pe_mono (pe_disp h hall hl h0 h15) fun σ H Q q => ?_
  obtain ⟨B, env, s, d, s', hE, hS, hf, hQ⟩ := q
  obtain ⟨ps, s1, h1, hf⟩ := Rs.bind_ok hf
  split at hf
  · rename_i kvs e1
    obtain ⟨hz, hf⟩ := Rs.iff_ok hf
    cases hf
    intro p hp
    have a1 := Ext.aside (B := B) (o := .dK []) hp
    refine pairs_to (B := ⟨B.locs, p :: B.hid⟩) (hE.mono a1.mo) (hS.aside hp) h1 fun B1 H1 qs x1 ee S1 r1 => ?_
    obtain ⟨L1, h1⟩ := B1
    simp only at ee
    subst ee
    have hd : H1 p = some (.dK []) := x1.keepH p _ upd_same List.mem_cons_self
    refine ⟨hd, ?_⟩
    obtain ⟨ks, rfl, hks⟩ := keys_rp r1 e1
    refine ⟨ks, rfl, by rw [← paired_len hks]; exact of_decide_eq_true hz, ?_⟩
    have hm : p ∈ (⟨L1, p :: B.hid⟩ : Lo).hid := List.mem_cons_self
    have S2 := S1.rehid (o := .dK (mergeK [] ks)) hm
    have m2 := Mo.rehid (o := .dK (mergeK [] ks)) S1 hm
    have x2 := (a1.trans x1).rewrite (o := .dK (mergeK [] ks)) hp
    have hh : p ∉ B.hid := hS.freeH hp
    refine hQ ⟨L1 ++ [p], B.hid⟩ _ _ (x2.adopt hp fun _ h => h) rfl (Sim.adopt (B := ⟨L1, B.hid⟩) (o := .dk (mergeD [] kvs)) S2 hh ⟨_, upd_same, Paired.mapP (merge_rp hks .nil) fun p q z => ⟨z.1, z.2.mono m2⟩⟩) (.loc ?_)
    rw [← S2.len]
    show (L1 ++ [p])[L1.length]? = some p
    rw [List.getElem?_append_right (Nat.le_refl _)]
    simp
  · cases hf
def fDict0 : Fn Dv := fun _ s => .ok (.loc s.length) (s ++ [.dk []])
/-! ### sums, all, any, the greater -/
def intsOf : List Dv → Option (List Int)
  | [] => some []
  | .int z :: r => (intsOf r).map (z :: ·)
  | _ => none
def blsOf : List Dv → Option (List Bool)
  | [] => some []
  | .bl z :: r => (blsOf r).map (z :: ·)
  | _ => none
/-- of a list alone -/
def gOnL {α : Type} (f : List Dv → Option α) (g : α → Dv) (xs : List Dv) (s : Sto) : Rs Dv := match xs with
  | [x] => match (seqOf s x).bind f with | some a => Rs.iff (isL x s) (.ok (g a) s) | none => .bad
  | _ => .bad
def gSumL := gOnL intsOf fun ns => Dv.int ns.sum
def gAll := gOnL blsOf fun b => Dv.bl (b.all id)
def gAny := gOnL blsOf fun b => Dv.bl (b.any id)
def gTwo (g : Int → Int → Int) (xs : List Dv) (s : Sto) : Rs Dv := match xs with | [.int i, .int j] => .ok (.int (g i j)) s | _ => .bad
/-! ### repr -/
def gRepr (xs : List Dv) (s : Sto) : Rs Dv := match xs with
  | [x] => match pyOf s x with
    | some p => Rs.iff (p.showable && decide (p.shown.length ≤ 16777216)) (.ok (.str p.shown) s)
    | none => .bad
  | _ => .bad
mutual
theorem py_noDict {s : Sto} : ∀ (k : Nat) (d : Dv) (p : PyData), py s k d = some p → p.hasDict = false ∧ p.depth ≤ k
  | 0, _, _, h => by cases h
  | k + 1, d, p, h => by
    have seq : ∀ {ds : List Dv} {ps : List PyData}, ds.mapM (py s k) = some ps → PyData.hasDictAll ps = false ∧ PyData.depthAll ps ≤ k := fun {ds ps} e => pys_noDict k ds ps e
    cases d with
    | non => cases h; exact ⟨rfl, Nat.zero_le _⟩
    | bl b => cases h; exact ⟨rfl, Nat.zero_le _⟩
    | int b => cases h; exact ⟨rfl, Nat.zero_le _⟩
    | str b => cases h; exact ⟨rfl, Nat.zero_le _⟩
    | xn => cases h
    | tup ds =>
      obtain ⟨ps, h3, rfl⟩ := Option.map_eq_some_iff.mp h
      obtain ⟨a1, a2⟩ := seq h3
      exact ⟨by simpa [PyData.hasDict] using a1, by simp only [PyData.depth]; omega⟩
    | ls ds =>
      obtain ⟨ps, h3, rfl⟩ := Option.map_eq_some_iff.mp h
      obtain ⟨a1, a2⟩ := seq h3
      exact ⟨by simpa [PyData.hasDict] using a1, by simp only [PyData.depth]; omega⟩
    | loc n =>
      have h' : (match s[n]? with | some (.lst ds) => (ds.mapM (py s k)).map .list | _ => none) = some p := h
      split at h'
      · obtain ⟨ps, h3, rfl⟩ := Option.map_eq_some_iff.mp h'
        obtain ⟨a1, a2⟩ := seq h3
        exact ⟨by simpa [PyData.hasDict] using a1, by simp only [PyData.depth]; omega⟩
      · cases h'
theorem pys_noDict {s : Sto} (k : Nat) : ∀ (ds : List Dv) (ps : List PyData), ds.mapM (py s k) = some ps → PyData.hasDictAll ps = false ∧ PyData.depthAll ps ≤ k
  | [], ps, h => by simp at h; subst h; exact ⟨rfl, Nat.zero_le _⟩
  | d :: ds, ps, h => by
    obtain ⟨y, r, h1, h2, rfl⟩ := mapM_cons_some h
    obtain ⟨a1, a2⟩ := py_noDict k d y h1
    obtain ⟨b1, b2⟩ := pys_noDict k ds r h2
    exact ⟨by simp [PyData.hasDictAll, a1, b1], by simp only [PyData.depthAll]; omega⟩
end
def rRepr (K : PySem.W.Frag) : List V → Hp → VK → Prop := fun xs H Q => ∃ x p, xs = [x] ∧ Dp K H x p ∧ p.showable = true ∧ p.hasDict = false ∧ p.depth ≤ 40 ∧ p.shown.length ≤ sizeLine ∧ Q (.str p.shown) H
theorem call_repr (c : Cz G bs k X N nm ow) : CallR X (.builtin "repr") (rRepr X.K) := by
  intro pins s σ H xs us Q I r h
  obtain ⟨x, p, rfl, hd, hs, hn, hdp, hz, q⟩ := h
  obtain ⟨u, rfl, rx⟩ := Vals.one r
  cases hd with
  | non => cases rx; exact PySem.P.repr_of_none ⟨.str _, H, I.tok _, ⟨_, rfl⟩, q⟩
  | bl b => cases rx; exact PySem.P.repr_of_bool ⟨.str _, H, I.tok _, ⟨_, rfl⟩, q⟩
  | int i =>
    obtain ⟨t, rfl⟩ := rx
    exact PySem.P.repr_of_int (by simpa [PyData.showable] using hs) ⟨.str _, H, I.tok _, ⟨_, rfl⟩, q⟩
  | str z =>
    obtain ⟨t, rfl⟩ := rx
    exact PySem.P.repr_of_str ⟨.str _, H, I.tok _, ⟨_, rfl⟩, q⟩ hz
  | lst h1 h2 =>
    cases rx
    obtain ⟨as, hr⟩ := Dp.reads I _ _ _ (.lst h1 h2) rfl
    exact repr_of_reads' hr hs (PyData.noDict_hsm hn) c.gd (by have := c.un; omega) (fun _ _ e => e) (fun h' u tk kk => ⟨.str _, H, I.kept (t' := tk) kk, ⟨_, rfl⟩, q⟩) hz
  | tup h1 h2 =>
    cases rx
    obtain ⟨as, hr⟩ := Dp.reads I _ _ _ (.tup h1 h2) rfl
    exact repr_of_reads' hr hs (PyData.noDict_hsm hn) c.gd (by have := c.un; omega) (fun _ _ e => e) (fun h' u tk kk => ⟨.str _, H, I.kept (t' := tk) kk, ⟨_, rfl⟩, q⟩) hz
theorem cz_repr {K : PySem.W.Frag} : CallZ K (rRepr K) gRepr := by
  intro B H s xs vs d s' Q S r h q
  unfold gRepr at h
  split at h
  · split at h
    · rename_i p e1
      obtain ⟨h1, h2⟩ := Rs.iff_ok h
      rw [Bool.and_eq_true] at h1
      cases h2
      cases r with
      | cons r1 rr =>
        cases rr
        obtain ⟨n1, n2⟩ := py_noDict _ _ _ e1
        exact ⟨_, p, rfl, dp_of S _ _ _ _ r1 e1, h1.1, n1, n2, len_line (of_decide_eq_true h1.2), q.same S (.str _)⟩
    · cases h
  · cases h
theorem z_repr (c : Cz G bs k X N nm ow) (ha : ZA X [e] fs) (hb : bOk bs nm "repr" = true := by decide +kernel) (he : starEach [e] X.env = (false, eval e X.env) :: starEach [] X.env := by rfl) : ZE X (.Call (.Name "repr" p) [e] [] pos) (fCall gRepr fs) :=
  z_callB c (call_repr c) cz_repr ha (by decide +kernel) hb (by decide +kernel) (by decide +kernel) he rfl
end
end Z

namespace Z
open PySem PySem.Spec PyProof.Rows L2

/-! ### sorted(xs), xs a list or a tuple -/
section
variable {prog : Program} {w : World} {A : Around} {E : Value → Shared → Prop} {s : Shared}
theorem sorted_seqZ {it : Addr} {T : String} {o : Obj} {items : Array Value} {n : Nat} {kw : List (Str × Value)} {Q : Value → Shared → Prop} (hT : T = "list" ∨ T = "tuple") (ho : s.heap.get? it = some o) (hc : o.cls = .type T) (hd : o.data = .seq items n) (hsz : items.size ≤ sizeLine)
    (ha1 : argsOk "sorted" ⟨[.ref it], kw⟩)
    (body : ∀ (h' : Heap) (E' : Value → Shared → Prop), (∀ b o', s.heap.get? b = some o' → h'.get? b = some o') →
      wpAny (model prog w) A.in1 (call (.builtin "list.sort") [.ref h'.objs.size] kw) (fun v s' => Q (.ref h'.objs.size) s') E' { s with heap := h'.push (seqObj "list" items.toList.toArray 0) }) :
    wpAny (model prog w) A (call (.builtin "sorted") [.ref it] kw) Q E s := by
  refine call_function_entry_kw kind_sorted plain_sorted entry_sorted ha1 ?_
  unfold Builtin.«sorted»
  refine wpAny_bind (m := checkCount "sorted" 1 1 _) (wpAny_pure ?_)
  refine wpAny_bind (PySem.wpAny_collect_seq it hT ho hc hd (fun h' k => ?_) hsz)
  refine wpAny_bind (PySem.wpAny_newList ?_ (by rw [Array.length_toList]; exact hsz))
  refine wpAny_bind (wpAny_holding ?_)
  refine wpAny_mono (body h' _ k) (fun v s' hq => ?_) fun _ _ e => e
  exact wpAny_pure ⟨_, rfl, hq⟩
end

theorem vals_each {us : List V} {its : List Value} {ps : List PyData} (r : Vals us its) : us.length = ps.length → PySem.W.EachIs (fun v (b : V × PyData) => RelV b.1 v) its (us.zip ps) := by
  induction r generalizing ps with
  | nil => intro _; cases ps <;> exact .nil
  | cons h t ih =>
    intro hl
    cases ps with
    | nil => simp at hl
    | cons p ps => exact .cons h (ih (by simpa using hl))
theorem each_vals : ∀ {bs : List (V × PyData)} {its : List Value}, PySem.W.EachIs (fun v (b : V × PyData) => RelV b.1 v) its bs → Vals (bs.map (·.1)) its
  | _, _, .nil => .nil
  | _, _, .cons h t => .cons h (each_vals t)
def rSortedZ (K : PySem.W.Frag) : List V → Hp → VK → Prop := fun xs H Q => ∃ a us ps, xs = [.ref a] ∧ (SqL K H a us ∨ SqT K H a us) ∧ DpAll K H us ps ∧ PySem.W.AllAlike ps ∧ PySem.W.Sortable ps ∧ (∀ p ∈ ps, p.depth ≤ 40) ∧
  ∀ p, H p = none → Q (.ref p) (upd H p (.lst (((us.zip ps).mergeSort (PySem.W.dataLe false (·.2))).map (·.1))))
section
variable {G : Gz} {bs : List Str} {k : Nat} {X : Cx} {N : List Str} {nm : List (Str × NameKind)} {ow : Str → Bool} {a b e : Expr} {es : List Expr} {fa fb : Fn Dv} {fs : Fn (List Dv)} {pos p : Pos}
theorem zip_snd : ∀ {us : List V} {ps : List PyData}, us.length = ps.length → (us.zip ps).map (·.2) = ps
  | [], [], _ => rfl
  | _ :: us, _ :: ps, h => congrArg (_ :: ·) (zip_snd (us := us) (ps := ps) (by simpa using h))
/-- the sorted items -/
def sortD (ds : List Dv) (ps : List PyData) : List Dv := ((ds.zip ps).mergeSort (PySem.W.dataLe false (·.2))).map (·.1)
def alikeB (ps : List PyData) : Bool := ps.all fun d => ps.all fun d' => PySem.W.alike d d'
def sortB (ps : List PyData) : Bool := ps.all (fun d => match d with | .tuple (_ :: _) => true | _ => false) || ps.all (fun d => match d with | .none => false | .tuple _ => false | _ => true)
theorem alikeB_ok {ps : List PyData} (h : alikeB ps = true) : PySem.W.AllAlike ps := fun d hd d' hd' => List.all_eq_true.mp (List.all_eq_true.mp h d hd) d' hd'
theorem sortB_ok {ps : List PyData} (h : sortB ps = true) : PySem.W.Sortable ps := by
  rcases Bool.or_eq_true _ _ ▸ h with h | h
  · refine .inl fun d hd => ?_
    have := List.all_eq_true.mp h d hd
    split at this
    · exact ⟨_, _, rfl⟩
    · cases this
  · refine .inr fun d hd => ?_
    have := List.all_eq_true.mp h d hd
    split at this
    · cases this
    · cases this
    · rename_i h1 h2
      exact ⟨h1, h2⟩
def gSorted (xs : List Dv) (s : Sto) : Rs (List Dv) := match xs with
  | [x] => match seqOf s x with
    | some ds => match ds.mapM (pyOf s) with
      | some ps => Rs.iff (alikeB ps && sortB ps) (.ok (sortD ds ps) s)
      | none => .bad
    | none => .bad
  | _ => .bad
theorem dps_of {K : PySem.W.Frag} {B : Lo} {H : Hp} {s : Sto} (S : Sim K B H s) : ∀ {ds : List Dv} {vs : List V} {ps : List PyData}, Rps K B H ds vs → ds.mapM (pyOf s) = some ps → DpAll K H vs ps
  | _, _, _, .nil, h => by simp at h; subst h; exact .nil
  | _, _, _, .cons r rr, h => by
    obtain ⟨y, t, h1, h2, rfl⟩ := mapM_cons_some h
    exact .cons (dp_of S _ _ _ _ r h1) (dps_of S rr h2)
theorem sort_rp {K : PySem.W.Frag} {B : Lo} {H : Hp} {ds : List Dv} {vs : List V} {ps : List PyData} (r : Rps K B H ds vs) (hl : ds.length = ps.length) : Rps K B H (sortD ds ps) (((vs.zip ps).mergeSort (PySem.W.dataLe false (·.2))).map (·.1)) := by
  have tri : ∀ {ds : List Dv} {vs : List V} (ps : List PyData), Rps K B H ds vs → ds.length = ps.length → ∃ ts : List ((Dv × V) × PyData), (∀ t ∈ ts, Rp K B H t.1.1 t.1.2) ∧ ds.zip ps = ts.map (fun t => (t.1.1, t.2)) ∧ vs.zip ps = ts.map (fun t => (t.1.2, t.2)) := by
    intro ds vs ps r
    induction ps generalizing ds vs with
    | nil => intro _; exact ⟨[], by simp, by simp, by simp⟩
    | cons p ps ih =>
      intro hl
      cases r with
      | nil => simp at hl
      | @cons d v ds vs r rr =>
        obtain ⟨ts, h1, h2, h3⟩ := ih rr (by simpa using hl)
        refine ⟨((d, v), p) :: ts, ?_, by simp [h2], by simp [h3]⟩
        intro t ht
        rcases List.mem_cons.mp ht with z | z
        · subst z; exact r
        · exact h1 t z
  obtain ⟨ts, h1, h2, h3⟩ := tri ps r hl
  unfold sortD
  rw [h2, h3, ← List.map_mergeSort (r := fun x y => PySem.W.dataLe false (·.2) x y) (f := fun t : (Dv × V) × PyData => (t.1.1, t.2)) (fun _ _ _ _ => rfl), ← List.map_mergeSort (r := fun x y => PySem.W.dataLe false (·.2) x y) (f := fun t : (Dv × V) × PyData => (t.1.2, t.2)) (fun _ _ _ _ => rfl), List.map_map, List.map_map]
  have : ∀ {us : List ((Dv × V) × PyData)}, (∀ t ∈ us, Rp K B H t.1.1 t.1.2) → Rps K B H (us.map ((·.1) ∘ fun t : (Dv × V) × PyData => (t.1.1, t.2))) (us.map ((·.1) ∘ fun t : (Dv × V) × PyData => (t.1.2, t.2))) := by
    intro us
    induction us with
    | nil => intro _; exact .nil
    | cons t us ih => intro h; exact .cons (h t List.mem_cons_self) (ih fun x hx => h x (List.mem_cons_of_mem _ hx))
  exact this fun t ht => h1 t ((List.mergeSort_perm ts _).mem_iff.mp ht)
theorem pys_depth {s : Sto} : ∀ {ds : List Dv} {ps : List PyData}, ds.mapM (pyOf s) = some ps → ∀ p ∈ ps, p.depth ≤ 40
  | [], ps, h, p, hp => by simp at h; subst h; cases hp
  | d :: ds, ps, h, p, hp => by
    obtain ⟨y, t, h1, h2, rfl⟩ := mapM_cons_some h
    rcases List.mem_cons.mp hp with z | z
    · subst z; exact (py_noDict 40 d _ h1).2
    · exact pys_depth h2 p z
/-! ### xs[::-1] -/
def fRevL (f : Fn Dv) : Fn (List Dv) := fun env s => (f env s).bind fun x s1 => match seqOf s1 x with
  | some ds => Rs.iff (isL x s1) (.ok ds.reverse s1)
  | none => .bad
/-! ### list + list -/
def rCatL (K : PySem.W.Frag) : R2 := fun x y H Q => ∃ l b xs zs, x = .ref l ∧ y = .ref b ∧ SqL K H l xs ∧ SqL K H b zs ∧ xs.length + zs.length ≤ sizeLine ∧ ∀ p, H p = none → Q (.ref p) (upd H p (.lst (xs ++ zs)))
theorem op_catL : OpR X (binaryOp .Add) (rCatL X.K) := by
  intro pins s σ H x y v u Q I rx ry h
  obtain ⟨l, b, xs, zs, rfl, rfl, hH, hB, hz, q⟩ := h
  cases rx
  cases ry
  obtain ⟨its, r, p1, hl⟩ := I.list hH
  obtain ⟨its2, r2, p2, hl2⟩ := I.list hB
  obtain ⟨⟨cls, dd, data, sl⟩, ho, hc, n, hd⟩ := p1.isList
  obtain ⟨⟨cls2, dd2, data2, sl2⟩, ho2, hc2, n2, hd2⟩ := p2.isList
  simp only at hc hd hc2 hd2
  subst hc hd hc2 hd2
  have e : its.toArray ++ its2.toArray = (its ++ its2).toArray := by simp
  refine concat_meets ⟨_, ho, rfl⟩ ⟨_, ho2, rfl⟩ noFill_list_add seq_list_add PySem.F.slot_list_add PySem.F.entry_list_add (PySem.F.args_list_add_2 _ _) (list_addW l b its.toArray its2.toArray n n2 dd dd2 sl sl2 (by rw [List.size_toArray, List.size_toArray, ← r.length, ← r2.length]; exact hz)) ⟨ho, ho2, ?_⟩
  rw [e]
  exact ⟨.ref _, _, I.lnew (t' := s.toks) (r.append r2) (by rw [List.length_append]; omega), rfl, q _ I.fresh⟩
def fCatL (f g : Fn Dv) : Fn (List Dv) := fun env s => (f env s).bind fun x s1 => (g env s1).bind fun y s2 => match seqOf s2 x, seqOf s2 y with
  | some ds, some es => Rs.iff (isL x s2 && isL y s2 && decide (ds.length + es.length ≤ 16777216)) (.ok (ds ++ es) s2)
  | _, _ => .bad
theorem z_catL (ha : ZE X a fa) (hb : ZE X b fb) : ZL X (.BinOp a .Add b pos) (fCatL fa fb) := by
  refine pe_mono (pe_op op_catL ha hb) fun σ H Q q => ?_
  obtain ⟨B, env, s, d, s', hE, hS, hf, hQ⟩ := q
  obtain ⟨x, s1, h1, hf⟩ := Rs.bind_ok hf
  obtain ⟨y, s2, h2, hf⟩ := Rs.bind_ok hf
  split at hf
  · rename_i ds es e1 e2
    obtain ⟨hl, hf⟩ := Rs.iff_ok hf
    cases hf
    rw [Bool.and_eq_true, Bool.and_eq_true] at hl
    obtain ⟨⟨l1, l2⟩, l3⟩ := hl
    refine ⟨B, env, s, _, _, hE, hS, h1, fun B1 H1 v x1 e1' S1 r1 => ?_⟩
    refine ⟨B1, env, s1, _, _, hE.mono x1.mo, S1, h2, fun B2 H2 u x2 e2' S2 r2 => ?_⟩
    obtain ⟨a1, us, rfl, hq, q1⟩ := seqL_of S2 (r1.mono x2.mo) l1 e1
    obtain ⟨a2, ws, rfl, hq2, q2⟩ := seqL_of S2 r2 l2 e2
    refine ⟨a1, a2, us, ws, rfl, rfl, hq, hq2, by rw [← q1.length, ← q2.length]; exact len_line (of_decide_eq_true l3), fun p hp => ?_⟩
    exact new_lst S2 (q1.append q2) hp fun B3 H3 p xs x3 e3 S3 hh hn hl r3 => hQ B3 H3 p xs ((x1.trans x2).trans x3) (e3.trans (e2'.trans e1')) S3 hh (new_none (x1.trans x2) x3 S3 hn) hl r3
  · cases hf
end
end Z

namespace Z
open PySem PySem.Spec PyProof.Rows L2 PySem.W

/-! ### isinstance(x, T), T one of the common types -/
def isiB (t T : String) : Bool := t == T || (t == "bool" && T == "int")
/-- no error -/
def okX : Dv → Bool
  | .xn .. => false
  | _ => true
theorem okX_non : okX .non = true := rfl
theorem okX_bl {b : Bool} : okX (.bl b) = true := rfl
theorem okX_int {b : Int} : okX (.int b) = true := rfl
theorem okX_str {b : Str} : okX (.str b) = true := rfl
theorem okX_tup {b : List Dv} : okX (.tup b) = true := rfl
theorem okX_ls {b : List Dv} : okX (.ls b) = true := rfl
theorem okX_loc {n : Nat} : okX (.loc n) = true := rfl
def tyD (x : Dv) (s : Sto) : String := match x with
  | .non => "NoneType"
  | .bl _ => "bool"
  | .int _ => "int"
  | .str _ => "str"
  | .tup _ => "tuple"
  | .ls _ => "list"
  | .loc n => match s[n]? with | some (.lst _) => "list" | some (.dk _) => "dict" | some (.dt _) => "dict" | none => ""
  | .xn .. => ""
def fIsi (T : String) (f : Fn Dv) : Fn Dv := fun env s => (f env s).bind fun x s1 => Rs.iff (okX x) (.ok (.bl (isiB (tyD x s1) T)) s1)
section
variable {G : Gz} {bs : List Str} {k : Nat} {X : Cx} {N : List Str} {nm : List (Str × NameKind)} {ow : Str → Bool} {a b e tg : Expr} {fa fb fc : Fn Dv} {fs : Fn (List Dv)} {pos p tpos p2 : Pos} {x : Str} {q : Bool}
/-! ### for c in text -/
def charsD (z : Str) : List Dv := z.cps.toList.map fun c => .str ⟨#[c]⟩
def fSrcS (f : Fn Dv) : Fn Src := fun env s => (f env s).bind fun d s1 => match d with | .str z => .ok (charsD z, noChk) s1 | _ => .bad
/-! ### a module's constant -/
/-- the module's name x holds d -/
def GV (G : Gz) (x : Str) (d : Dv) : Prop := ∃ u, G.mg x = some u ∧ ∃ v, RelV v u ∧ ∀ (B : Lo) (H : Hp), Rp G.K B H d v
theorem GV.str {G : Gz} {x z : Str} {t : Tok} (h : G.mg x = some (.str z t)) : GV G x (.str z) := ⟨_, h, .str z, ⟨t, rfl⟩, fun _ _ => .str z⟩
theorem GV.int {G : Gz} {x : Str} {i : Int} {t : Tok} (h : G.mg x = some (.int i t)) : GV G x (.int i) := ⟨_, h, .int i, ⟨t, rfl⟩, fun _ _ => .int i⟩
end

/-! ### enumerate(tuple) -/
set_option maxHeartbeats 1000000 in
/-- the tuple at a, each item in a new pair behind its place -/
def IteT (K : PySem.W.Frag) (a : Addr) : It :=
  ⟨fun i H => ∃ (xs : List V) (x : V), SqT K H a xs ∧ xs[i]? = some x, fun i H v H' => ∃ T x, v = .ref T ∧ H T = none ∧ H' = upd H T (.tup [.int (i : Nat), x]) ∧ ∀ xs, SqT K H a xs → xs[i]? = some x, fun i H => ∃ xs : List V, SqT K H a xs ∧ xs.length ≤ i⟩
def iEnumT (K : PySem.W.Frag) (ta : TA) : TI := fun σ H R => ta σ H fun vs H1 => ∃ a xs, vs = [.ref a] ∧ ((SqL K H1 a xs ∧ R (Ite K a) H1) ∨ (SqT K H1 a xs ∧ R (IteT K a) H1))
end Z

namespace Z
open PySem PySem.Spec PyProof.Rows L2

/-! ### enumerate, zip, reversed -/
def srcOf (d : Dv) (s : Sto) : Option Src := match d with
  | .tup ds => some (ds, noChk)
  | .ls ds => some (ds, noChk)
  | .loc n => match s[n]? with | some (.lst ds) => some (ds, isLst n ds) | _ => none
  | _ => none
def AtL (K : PySem.W.Frag) (B : Lo) (H : Hp) (a : Addr) (src : Src) : Prop := (∃ xs, SqL K H a xs ∧ Rps K B H src.1 xs) ∧ ∀ (B1 : Lo) (H1 : Hp) (s1 : Sto), Ext B H B1 H1 → Sim K B1 H1 s1 → src.2 s1 = true → ∃ xs, SqL K H1 a xs ∧ Rps K B1 H1 src.1 xs
def AtT (K : PySem.W.Frag) (B : Lo) (H : Hp) (a : Addr) (src : Src) : Prop := (∃ xs, SqT K H a xs ∧ Rps K B H src.1 xs) ∧ ∀ (B1 : Lo) (H1 : Hp) (s1 : Sto), Ext B H B1 H1 → Sim K B1 H1 s1 → src.2 s1 = true → ∃ xs, SqT K H1 a xs ∧ Rps K B1 H1 src.1 xs
theorem at_of {K : PySem.W.Frag} {B : Lo} {H : Hp} {s : Sto} (S : Sim K B H s) {d : Dv} {v : V} {src : Src} (r : Rp K B H d v) (h : srcOf d s = some src) : ∃ a, v = .ref a ∧ ((isL d s = true ∧ AtL K B H a src) ∨ (isT d s = true ∧ AtT K B H a src)) := by
  cases r with
  | tup h1 h2 =>
    cases h
    exact ⟨_, rfl, .inr ⟨rfl, ⟨_, h1.sq, h2⟩, fun B1 H1 s1 x S1 _ => ⟨_, (x.mo.tk h1).sq, h2.mono x.mo⟩⟩⟩
  | ls h1 h2 =>
    cases h
    exact ⟨_, rfl, .inl ⟨rfl, ⟨_, h1.sq, h2⟩, fun B1 H1 s1 x S1 _ => ⟨_, (x.mo.ls h1).sq, h2.mono x.mo⟩⟩⟩
  | @loc n a h1 =>
    obtain ⟨o, ho, ro⟩ := S.at h1
    unfold srcOf at h
    simp only [ho] at h
    cases o with
    | lst es =>
      cases h
      obtain ⟨xs, e1, e2⟩ := ro
      refine ⟨_, rfl, .inl ⟨by unfold isL; simp only [ho], ⟨xs, .of e1, e2⟩, fun B1 H1 s1 x S1 hc => ?_⟩⟩
      have h5 := isLst_at hc
      obtain ⟨o, ho, ro⟩ := S1.at (pre_get x.mo.pre h1)
      rw [h5] at ho; cases ho
      obtain ⟨ys, h6, h7⟩ := ro
      exact ⟨ys, .of h6, h7⟩
    | _ => cases h
  | _ => cases h
def enumD (ds : List Dv) : List Dv := ds.mapIdx fun i d => .tup [.int (i : Nat), d]
def fEnum (f : Fn (List Dv)) : Fn Src := fun env s => (f env s).bind fun ds s1 => match ds with
  | [d] => match srcOf d s1 with | some src => .ok (enumD src.1, src.2) s1 | none => .bad
  | _ => .bad
def zipD (ds es : List Dv) : List Dv := List.zipWith (fun a b => .tup [a, b]) ds es
def fZip (f : Fn (List Dv)) : Fn Src := fun env s => (f env s).bind fun ds s1 => match ds with
  | [d, e] => match srcOf d s1, srcOf e s1 with
    | some a, some b => Rs.iff ((isL d s1 && isL e s1) || (isT d s1 && isT e s1)) (.ok (zipD a.1 b.1, fun s => a.2 s && b.2 s) s1)
    | _, _ => .bad
  | _ => .bad
def fRevI (f : Fn Dv) : Fn Src := fun env s => (f env s).bind fun d s1 => match srcOf d s1 with | some src => .ok (src.1.reverse, src.2) s1 | none => .bad
section
variable {G : Gz} {bs : List Str} {k : Nat} {X : Cx} {N : List Str} {nm : List (Str × NameKind)} {ow : Str → Bool} {a b e e2 tg : Expr} {elts : List Expr} {kk : Nat} {fa fb fc : Fn Dv} {fs : Fn (List Dv)} {pos p tpos : Pos} {q : Bool}
end
end Z

namespace Z
open PySem PySem.Spec PyProof.Rows L2

/-! ### sum of a list or a tuple; the greatest, the least of a list -/
def rSumA (K : PySem.W.Frag) : List V → Hp → VK → Prop := fun vs H Q => ∃ (a : Addr) (ns : List Int), vs = [V.ref a] ∧ (SqL K H a (ns.map V.int) ∨ SqT K H a (ns.map V.int)) ∧ Q (.int ns.sum) H
def gSum (xs : List Dv) (s : Sto) : Rs Dv := match xs with
  | [x] => match (seqOf s x).bind intsOf with | some a => .ok (.int a.sum) s | none => .bad
  | _ => .bad
def gExt1 (le : Int → Int → Bool) (xs : List Dv) (s : Sto) : Rs Dv := match xs with
  | [x] => match (seqOf s x).bind intsOf with
    | some (n :: r) => Rs.iff (isL x s) (.ok (.int (r.foldl (fun a b => if le a b = true then a else b) n)) s)
    | _ => .bad
  | _ => .bad
section
variable {G : Gz} {bs : List Str} {k : Nat} {X : Cx} {N : List Str} {nm : List (Str × NameKind)} {ow : Str → Bool} {a b e : Expr} {fa fb fc : Fn Dv} {fs : Fn (List Dv)} {pos p : Pos}
end
end Z

namespace Z
open PySem PySem.Spec PyProof.Rows L2

/-! ### int(x), abs(x) -/
def gToInt (xs : List Dv) (s : Sto) : Rs Dv := match xs with
  | [.int i] => .ok (.int i) s
  | [.bl b] => .ok (.int (if b = true then 1 else 0)) s
  | _ => .bad
def gAbs (xs : List Dv) (s : Sto) : Rs Dv := match xs with
  | [.int i] => .ok (.int (if i < 0 then -i else i)) s
  | _ => .bad
section
variable {G : Gz} {bs : List Str} {k : Nat} {X : Cx} {N : List Str} {nm : List (Str × NameKind)} {ow : Str → Bool} {a b e : Expr} {es : List Expr} {fa fb fc : Fn Dv} {fs gs : Fn (List Dv)} {pos p kpos : Pos} {x : Str} {n : Nat} {φ : Phi}
/-! ### defs with defaults, calls with keywords -/
/-- the def x of the module, its parameters' names told: dvs are the defaults of its last ones -/
structure Fd (G : Gz) (k : Nat) (x : Str) (n : Nat) (φ : Phi) (f : Addr) (fd : FuncData) (ps : List Str) : Prop where
  len : ∀ ds s d s', φ ds s = .ok d s' → ds.length = n
  mg : G.mg x = some (.ref f)
  kp : PySem.W.keepIn G.K (.ref f) = true
  hn : ps.length = n
  run : FnZ G k f fd ps (spZ G.K n φ)
theorem Fd.mono {G : Gz} {j k : Nat} {x : Str} {n : Nat} {φ : Phi} {f : Addr} {fd : FuncData} {ps : List Str} (F : Fd G j x n φ f fd ps) (h : j ≤ k) : Fd G k x n φ f fd ps := ⟨F.len, F.mg, F.kp, F.hn, F.run.mono h⟩
/-- constants as defaults -/
def cV : Dv → Option V
  | .non => some .non
  | .bl b => some (.bl b)
  | .int i => some (.int i)
  | .str z => some (.str z)
  | _ => none
def fCallD (φ : Phi) (ds : List Dv) (f : Fn (List Dv)) : Fn Dv := fun env s => (f env s).bind fun xs s1 => φ (xs ++ ds) s1
/-- the values of keywords -/
abbrev ZK (X : Cx) (kws : List Keyword) (f : Fn (List Dv)) : Prop := PK X kws (tOfA X.K f)
def fCallK (φ : Phi) (m j : Nat) (f g : Fn (List Dv)) : Fn Dv := fun env s => (f env s).bind fun xs s1 => (g env s1).bind fun zs s2 => Rs.iff (xs.length == m && zs.length == j) (φ (xs ++ zs) s2)
end
end Z

namespace Z
open PySem PySem.Spec PyProof.Rows L2

/-! ### text * int, tuple * int -/
def rMulS : R2 := fun x y H Q => ∃ z i, x = .str z ∧ y = .int i ∧ z.length ≤ 16 ∧ 0 ≤ i ∧ i ≤ 1000000 ∧ Q (.str (Txt.mul z i)) H
def rMulT (K : PySem.W.Frag) : R2 := fun x y H Q => ∃ l k xs, x = .ref l ∧ y = .int k ∧ SqT K H l xs ∧ xs ≠ [] ∧ 2 ≤ k ∧ k ≤ 1000 ∧ xs.length ≤ 1000 ∧ ∀ p o, H p = none → o.dict = none → Q (.ref p) (upd H p (.frz o (.tup (List.replicate k.toNat xs).flatten)))
def gTimes (x y : Dv) (s : Sto) : Rs Dv := match x, y with
  | .int i, .int j => Rs.iff (cMul i j) (.ok (.int (i * j)) s)
  | .str z, .int i => Rs.iff (decide (z.length ≤ 16) && decide (0 ≤ i) && decide (i ≤ 1000000)) (.ok (.str (Txt.mul z i)) s)
  | .tup ds, .int k => Rs.iff (!ds.isEmpty && decide (2 ≤ k) && decide (k ≤ 1000) && decide (ds.length ≤ 1000)) (.ok (.tup (List.replicate k.toNat ds).flatten) s)
  | _, _ => .bad
def rTimes (K : PySem.W.Frag) : R2 := fun x y H Q => rI CMul (fun i j => .int (i * j)) x y H Q ∨ rMulS x y H Q ∨ rMulT K x y H Q
section
variable {X : Cx} {a b : Expr} {fa fb : Fn Dv} {pos : Pos}
end

/-! ### a def that leaves what it made -/
def fDefN (n m : Nat) (body : Fn Ct) (ds : List Dv) (s : Sto) : Rs Dv :=
  Rs.iff (ds.length == n) ((body (ds.map some ++ List.replicate (m - n) none) s).bind fun c s1 => match c with
    | .next _ => .ok .non s1
    | .ret d => .ok d s1
    | _ => .bad)
end Z

/-! # dict(pairs) -/
namespace Z
open PySem PySem.Spec PyProof.Rows L2
def pairsD : List Dv → Option (List (Key × Dv))
  | [] => some []
  | .tup [k, v] :: r => match keyD k, pairsD r with | some k', some r' => some ((k', v) :: r') | _, _ => none
  | _ :: _ => none
def gDictP (xs : List Dv) (s : Sto) : Rs Dv := match xs with
  | [.ls ds] => match pairsD ds with | some kvs => .ok (.loc s.length) (s ++ [.dk (mergeD [] kvs)]) | none => .bad
  | _ => .bad
section
variable {G : Gz} {bs : List Str} {k : Nat} {X : Cx} {N : List Str} {nm : List (Str × NameKind)} {ow : Str → Bool} {e : Expr} {fs : Fn (List Dv)} {pos p : Pos}
end
end Z

/-! # sorted(xs, reverse=b), xs a list of ints -/
namespace Z
open PySem PySem.Spec PyProof.Rows L2
def sortR (b : Bool) (ns : List Int) : List Int := if b = true then (ns.mergeSort fun i j => decide (i ≤ j)).reverse else ns.mergeSort fun i j => decide (i ≤ j)
def gSortR (b : Bool) (xs : List Dv) (s : Sto) : Rs (List Dv) := match xs with
  | [x] => match (seqOf s x).bind intsOf with
    | some ns => Rs.iff (isL x s) (.ok ((sortR b ns).map .int) s)
    | none => .bad
  | _ => .bad
section
variable {G : Gz} {bs : List Str} {k : Nat} {X : Cx} {N : List Str} {nm : List (Str × NameKind)} {ow : Str → Bool} {e : Expr} {fs : Fn (List Dv)} {pos p : Pos} {b : Bool}
end
end Z

/-! # sorted(d.values(), reverse=b), sum(d.values()): the calls -/
namespace Z
open PySem PySem.Spec PyProof.Rows L2
section
variable {prog : Program} {w : World} {A : Around} {E : Value → Shared → Prop} {s : Shared} {T : String} {r d : Addr} {n : Nat} {P : Nat → Value → Prop} {OK : Heap → Prop}
end
end Z

/-! # sorted(d.values(), reverse=b) -/
namespace Z
open PySem PySem.Spec PyProof.Rows L2
def tSortVals (b : Bool) (td : TE) : TE := fun σ H Q => td σ H fun x H1 => ∃ a kvs is, x = V.ref a ∧ H1 a = some (.dK kvs) ∧ kvs.map (·.2) = is.map V.int ∧ is.length ≤ sizeLine ∧ ∀ p, H1 p = none → Q (.ref p) (upd H1 p (.lst ((sortR b is).map V.int)))
section
variable {X : Cx} {o : Expr} {p pos apos mpos kpos cp : Pos} {td : TE} {b : Bool} {j : Nat}
end
end Z

/-! # sorted(d.values(), reverse=b): the rule -/
namespace Z
open PySem PySem.Spec PyProof.Rows L2
def valsOf (s : Sto) : Dv → Option (List Int)
  | .loc n => match s[n]? with | some (.dk kvs) => intsOf (kvs.map (·.2)) | _ => none
  | _ => none
def fSortV (b : Bool) (fd : Fn Dv) : Fn (List Dv) := fun env s => (fd env s).bind fun x s1 => match valsOf s1 x with
  | some ns => Rs.iff (decide (ns.length ≤ 16777216)) (.ok ((sortR b ns).map .int) s1)
  | none => .bad
section
variable {G : Gz} {bs : List Str} {k : Nat} {X : Cx} {N : List Str} {nm : List (Str × NameKind)} {ow : Str → Bool} {o : Expr} {fd : Fn Dv} {p pos apos mpos kpos cp : Pos} {b : Bool} {j : Nat}
end
end Z

/-! # sum(d.values()) -/
namespace Z
open PySem PySem.Spec PyProof.Rows L2
def tSumVals (td : TE) : TE := fun σ H Q => td σ H fun x H1 => ∃ (a : Addr) (kvs : List (Key × V)) (is : List Int), x = V.ref a ∧ H1 a = some (.dK kvs) ∧ kvs.map (·.2) = is.map V.int ∧ Q (.int is.sum) H1
section
variable {X : Cx} {o : Expr} {p pos apos mpos : Pos} {td : TE}
def fSumV (fd : Fn Dv) : Fn Dv := fun env s => (fd env s).bind fun x s1 => match valsOf s1 x with
  | some ns => .ok (.int ns.sum) s1
  | none => .bad
variable {G : Gz} {bs : List Str} {k : Nat} {N : List Str} {nm : List (Str × NameKind)} {ow : Str → Bool} {fd : Fn Dv}
end
end Z

/-! # Errors of the program made: classes over an own class over ValueError or LookupError -/
namespace Z
open PySem PySem.Spec PyProof.Rows L2 PySem.W PySem.HandSPX

/-- what the written part says of an error's class at C: its builtin base B -/
structure OexB (K : PySem.W.Frag) (C : Addr) (B nw ini : String) (mr : List Value) : Prop where
  FB : ExcBaseFacts B nw ini mr
  SF : StoreFacts B mr "object.__setattr__" "object"
  cls : ∃ nm q N bs bm sn sub ab col dd k0 k1 k2 k3 k5, K.lookup C = some (excClassObj nm q C N bs bm true sn sub ab col dd k0 k1 k2 k3 k5 nw) ∧ excTail mr bm = true
  sa : findIn K (.ref C) "__setattr__" = some (some (.builtin "object.__setattr__"))
  exC : subIn K (.ref C) (.type "BaseException") = some true
  tyC : typeIn K (.ref C) = some (.type "type")
  kC : keepIn K (.ref C) = true
section
variable {K : PySem.W.Frag} {C : Addr} {B nw ini : String} {mr : List Value}
theorem OexB.cd (T : OexB K C B nw ini mr) : ∃ cd : ClassData, clsIn K C = some cd ∧ cd.hasDict = true ∧ excOver K C mr = true := by
  obtain ⟨nm, q, N, bs, bm, sn, sub, ab, col, dd, k0, k1, k2, k3, k5, hC, hbm⟩ := T.cls
  have hcl : clsIn K C = some { name := nm, bases := bs, mro := .ref C :: bm, ns := N, qualname := q, hasDict := true, slotNames := sn, subclasses := sub, abstract := ab, collection := col, hasDel := false } := by
    unfold clsIn; rw [hC]
  refine ⟨_, hcl, rfl, ?_⟩
  unfold excOver
  rw [hcl]
  show (C == C && excTail mr bm) = true
  rw [hbm]; simp
end
section
open Builtin Builtin.ObjectAttr
variable {prog : Program} {w : World} {A : Around} {E : Value → Shared → Prop} {R : Result → Shared → Prop} {hp : Heap} {g : Array GenState} {d : Drawn} {t : Nat} {os : OsState}
variable {K : PySem.W.Frag} {name : Str} {tk : Tok} {v : Value} {x C dx : Addr} {fv : Array Value} {B nw ini : String} {mr : List Value}
/-- the first field of an error -/
theorem osaB_new (T : OexB K C B nw ini mr) (X : K.In hp) (hx : hp.get? x = some { cls := .ref C, data := .fields fv }) (ht : takerIn K C name = some none)
    (hq : ∀ h' tk' dx, (∀ b o, b ≠ x → hp.get? b = some o → h'.get? b = some o) → hp.objs.size ≤ dx → dx ≠ x →
      h'.get? x = some { cls := .ref C, dict := some dx, data := .fields fv } → h'.Ns1 dx (fun y => if y = name then some v else none) →
      R (.ok (.ret .none)) ⟨h', g, d, tk', os⟩) :
    codeAny (model prog w) A (.call (.builtin "object.__setattr__") ⟨[.ref x, .str name tk, v], []⟩) R ⟨hp, g, d, t, os⟩ := by
  obtain ⟨cd, hcd, hh, hov⟩ := T.cd
  have xs : x ≠ hp.objs.size := Nat.ne_of_lt (Heap.lt_size hx)
  have Lc : Looks (model prog w) hp (classData C) cd := looks_clsIn X hcd
  have J : InstAt hp x { cls := .ref C, data := .fields fv } C none := ⟨hx, rfl, rfl, trivial⟩
  refine osa_openX (s := ⟨hp, g, d, t, os⟩) T.SF X J hov ht fun b => ?_
  obtain ⟨c1, c2, c3, c4, c5, c6, c7, c8, c9, c10, c11⟩ := cd
  dsimp only at hh
  subst hh
  show wpAny _ _ (storeInOwnDict (.ref x) (.ref C) (.str name tk) name v b) _ _ _
  unfold storeInOwnDict ownDictForStores
  repeat (first | with_reducible refine store_in_new ?_ ?_ | with_reducible refine wpAny_loadPart_at hx ?_ | with_reducible refine Lc.at ?_ | wp_step)
  · exact ⟨_, #[], _, (Heap.get?_update_ne _ _ _ _ xs.symm).trans (Heap.get?_push_at rfl rfl), rfl, fun e he => absurd he (by simp), fun _ => rfl⟩
  · intro h' tk' hn' hs
    have hx1 : (hp.push { cls := .type "dict", data := .dict #[] }).get? x = some { cls := .ref C, data := .fields fv } := Heap.get?_push_of_some _ hx
    refine hq h' tk' hp.objs.size (fun b o hb ho => ?_) (Nat.le_refl _) xs.symm ((hs.2 x xs).trans (Heap.get?_update_self _ hx1 rfl)) hn'
    exact (hs.2 b (Nat.ne_of_lt (Heap.lt_size ho))).trans ((Heap.get?_update_ne _ _ _ _ hb).trans (Heap.get?_push_of_some _ ho))
/-- a further one -/
theorem osaB_old {m0 : Str → Option Value} {nl : List Str} (T : OexB K C B nw ini mr) (X : K.In hp) (hx : hp.get? x = some { cls := .ref C, dict := some dx, data := .fields fv }) (hns : hp.Ns1 dx m0) (hw : Within m0 nl) (hz : nl.length ≤ 1000)
    (ht : takerIn K C name = some none)
    (hq : ∀ h' tk', (∀ b o, b ≠ dx → hp.get? b = some o → h'.get? b = some o) → h'.Ns1 dx (fun y => if y = name then some v else m0 y) → R (.ok (.ret .none)) ⟨h', g, d, tk', os⟩) :
    codeAny (model prog w) A (.call (.builtin "object.__setattr__") ⟨[.ref x, .str name tk, v], []⟩) R ⟨hp, g, d, t, os⟩ := by
  obtain ⟨cd, hcd, hh, hov⟩ := T.cd
  obtain ⟨oD, _, _, hoD, _, _⟩ := hns.count hw
  have Lc : Looks (model prog w) hp (classData C) cd := looks_clsIn X hcd
  have J : InstAt hp x { cls := .ref C, dict := some dx, data := .fields fv } C (some oD) := ⟨hx, rfl, rfl, hoD⟩
  refine osa_openX (s := ⟨hp, g, d, t, os⟩) T.SF X J hov ht fun b => ?_
  obtain ⟨c1, c2, c3, c4, c5, c6, c7, c8, c9, c10, c11⟩ := cd
  dsimp only at hh
  subst hh
  show wpAny _ _ (storeInOwnDict (.ref x) (.ref C) (.str name tk) name v b) _ _ _
  unfold storeInOwnDict ownDictForStores
  repeat (first | with_reducible refine PySem.OEX.store_in_old hns hw hz ?_ | with_reducible refine wpAny_loadPart_at hx ?_ | with_reducible refine Lc.at ?_ | wp_step)
  intro h' tk' hn' hs
  exact hq h' tk' (fun b o hb ho => (hs.2 b hb).trans ho) hn'
end
section
variable {X : Cx} {pins : List (Addr × Obj)} {σ : L2.St} {H : Hp} {s : Shared} {a C dx : Addr} {f : Str} {y : V} {u : Value} {fs : List (Str × V)} {E : Value → Shared → Prop} {A : Around} {B nw ini : String} {mr : List Value}
theorem stB_new {Q : Unit → Shared → Prop} (T : OexB X.K C B nw ini mr) (I : Inv X pins σ H s) (e : H a = some (exo a C none)) (hno : takerIn X.K C f = some none) (ry : RelV y u)
    (h : ∀ dx s', H dx = none → dx ≠ a → Inv X pins σ (upd (upd H dx (exd dx [(f, y)])) a (exo a C (some dx))) s' → Q () s') : wpAny (model X.prog X.w) A (setAttr (.ref a) f u) Q E s := by
  obtain ⟨t1, ho⟩ := exo_at I.hok e
  obtain ⟨hp, g, d, t, os⟩ := s
  refine set_plain I.kIn (od := none) ⟨ho, rfl, rfl, trivial⟩ T.sa (osaB_new T I.kIn ho hno fun h' tk' dx k dn dne hx hn => ?_)
  have hnd : H dx = none := I.hok.fresh dn
  have nd : ∀ {b : Addr} {o : Obj}, hp.get? b = some o → b ≠ dx := fun q => Nat.ne_of_lt (Nat.lt_of_lt_of_le (Heap.lt_size q) dn)
  have na : ∀ {b : Addr}, H b = none → b ≠ a := fun n z => by rw [z, e] at n; cases n
  have U : Un X.fs [] H (upd (upd H dx (exd dx [(f, y)])) a (exo a C (some dx))) hp h' :=
    ⟨fun b o q n _ _ => k b o (na n) q, fun b o q n _ _ => ⟨o.slots, k b o (na n) q⟩, fun b o q n _ => by rw [upd_ne (na n), upd_ne (nd q)]; exact n,
      fun b o q _ => by
        by_cases hb : b = a
        · exact ⟨_, by rw [hb]; exact hx⟩
        · exact ⟨o, k b o hb q⟩,
      fun b xs q => by rw [upd_ne (at_ne e q exo_tup), upd_ne (ne_of_none q hnd)]; exact q,
      fun b o v q => by rw [upd_ne (at_ne e q exo_frz), upd_ne (ne_of_none q hnd)]; exact q,
      fun b ps q => ⟨#[], by rw [upd_ne (at_ne e q exo_tbl), upd_ne (ne_of_none q hnd), q]; simp⟩⟩
  refine h dx _ hnd dne (I.un (t' := tk') U fun b o q => ?_)
  by_cases hb : b = a
  · subst hb
    rw [upd_same] at q; cases q
    exact exo_ok hx
  rw [upd_ne hb] at q
  by_cases hd : b = dx
  · subst hd
    rw [upd_same] at q; cases q
    exact exd_ok hn (relO_put (fs := []) ry fun g => True.intro)
  rw [upd_ne hd] at q
  refine (I.hok b o q).stay (fun c v hc z => k c v (hc.elim (fun hc => by rw [hc]; exact hb) fun hc => at_ne e hc exo_own) z) (fun c hc => ?_) fun c xs hc => ?_
  · rw [upd_ne (at_ne e hc exo_own), upd_ne (ne_of_none hc hnd)]; exact hc
  · rw [upd_ne (at_ne e hc exo_tup), upd_ne (ne_of_none hc hnd)]; exact hc
theorem stB_old {Q : Unit → Shared → Prop} (T : OexB X.K C B nw ini mr) (I : Inv X pins σ H s) (e : H a = some (exo a C (some dx))) (ed : H dx = some (exd dx fs)) (hl : fs.length ≤ 900) (hno : takerIn X.K C f = some none) (ry : RelV y u)
    (h : ∀ s', Inv X pins σ (upd H dx (exd dx ((f, y) :: fs))) s' → Q () s') : wpAny (model X.prog X.w) A (setAttr (.ref a) f u) Q E s := by
  obtain ⟨t1, ho⟩ := exo_at I.hok e
  obtain ⟨mA, hns, rel⟩ := exd_at I.hok ed
  have hw := within_of rel
  obtain ⟨hp, g, d, t, os⟩ := s
  obtain ⟨oD, _, _, hoD, _, _⟩ := hns.count hw
  refine set_plain I.kIn (od := some oD) ⟨ho, rfl, rfl, hoD⟩ T.sa (osaB_old T I.kIn ho hns hw (by rw [List.length_map]; omega) hno fun h' tk' k hn => ?_)
  have hd : ∃ o, h'.get? dx = some o := let ⟨o, _, _, e', _⟩ := hn; ⟨o, e'⟩
  exact h _ (I.write (t' := tk') (x := dx) (e := dx) (o := exd dx ((f, y) :: fs)) (by rw [ed]; exact True.intro) (.inl rfl) k hd (exd_ok hn (relO_put ry rel)))
theorem initB_ok {us : List Value} {Q : Value → Shared → Prop} (T : OexB X.K C B nw ini mr) (I : Inv X pins σ H s) (e : H a = some (exo a C none)) (hl : us.length ≤ sizeLine) (h : ∀ s', Inv X pins σ H s' → Q .none s') :
    wpAny (model X.prog X.w) A (call (.builtin ini) (.ref a :: us)) Q E s := by
  obtain ⟨nm, q, N, bs, bm, sn, sub, ab, col, dd, k0, k1, k2, k3, k5, hC, hbm⟩ := T.cls
  obtain ⟨t1, ho⟩ := exo_at I.hok e
  obtain ⟨hp, g, d, t, os⟩ := s
  refine wpAny_call (init_base T.FB (fun Y => excTail_contains Y bm hbm) (I.kIn _ _ hC) ho hl fun h' t2 k hx => ?_)
  have J := I.write (t' := t) (x := a) (e := a) (o := exo a C none) (by rw [e]; exact True.intro) (.inl rfl) k ⟨_, hx⟩ (exo_ok hx)
  have eu : upd H a (exo a C none) = H := funext fun b => by
    by_cases hb : b = a
    · rw [hb, upd_same, e]
    · exact upd_ne hb
  rw [eu] at J
  exact h _ J
end
/-! ### readings -/
/-- Base.__init__(self, ..), Base an own class without __init__ -/
def tBi (K : PySem.W.Frag) (ini : String) (ta : TA) : TE := fun σ H Q => ta σ H fun vs H1 => ∃ (a C : Addr) (B nw : String) (mr : List Value) (ws : List V), vs = .ref a :: ws ∧ ws.length ≤ 1000 ∧ OexB K C B nw ini mr ∧ H1 a = some (exo a C none) ∧ Q .non H1
/-- self.f = e on an error that is being made -/
def tFs (K : PySem.W.Frag) (f : Str) (to te : TE) : TS := fun D σ H => te σ H fun y H1 => to σ H1 fun x H2 => ∃ (a C : Addr) (B nw ini : String) (mr : List Value), x = .ref a ∧ OexB K C B nw ini mr ∧ takerIn K C f = some none ∧
  ((H2 a = some (exo a C none) ∧ ∀ dx, H2 dx = none → dx ≠ a → D.nx σ (upd (upd H2 dx (exd dx [(f, y)])) a (exo a C (some dx)))) ∨
    ∃ (dx : Addr) (fs : List (Str × V)), H2 a = some (exo a C (some dx)) ∧ H2 dx = some (exd dx fs) ∧ fs.length ≤ 900 ∧ D.nx σ (upd H2 dx (exd dx ((f, y) :: fs))))
/-- an own class is read: what its __init__ is -/
structure BaseI (K : PySem.W.Frag) (mg : Str → Option Value) (b : Str) (ini : String) : Prop where
  ex : ∃ (D : Addr), mg b = some (.ref D) ∧ specialIn K (.ref D) "__getattribute__" = some (some (.builtin "type.__getattribute__")) ∧ readsIn K D (.type "type") = true ∧ findCls K (.ref D) (.type "type") "__init__" = some (.val (.builtin ini))
  hi : handedIn (.builtin ini) = true
section
variable {X : Cx} {o e : Expr} {es : List Expr} {to te : TE} {ta : TA} {f b : Str} {p p' p1 p2 pos : Pos} {ini : String}
theorem pe_bi {pl : Sem Bool} (T : BaseI X.K X.mg b ini) (hg : Gl X b) (ha : PA X (e :: es) ta)
    (hc : eval (.Call (.Attribute (.Name b p1) "__init__" p2) (e :: es) [] pos) X.env = (do
      let ov ← eval (.Name b p1) X.env
      standAt p2.atName
      let (f, first) ← holding [ov] (getMethod ov "__init__" pl)
      callWith pos f first (backTo pos (starEach (e :: es) X.env)) (backToKw pos (keywordEach [] X.env))))
    (hdb : (b == ("__debug__" : Str)) = false) (he : starEach (e :: es) X.env = (false, eval e X.env) :: starEach es X.env := by rfl) (hpl : (backTo pos (starEach es X.env)).any (·.1) = false := by rfl) :
    PE X (.Call (.Attribute (.Name b p1) "__init__" p2) (e :: es) [] pos) (tBi X.K ini ta) := by
  obtain ⟨D, h1, h2, h3, h4⟩ := T.ex
  refine ⟨fun pins s σ H Q I h => ?_⟩
  refine methodCall_KW (ld_glob I hg h1 ?_ hdb) hc
  refine method_cls I.kIn h2 (cls_value I.kIn h3 h4 T.hi ?_)
  show wpAny _ _ (callWith pos (Value.builtin ini) [] (backTo pos (starEach (e :: es) X.env)) []) _ _ _
  refine PyProof.Rows.callWith_method1 (thn (ha.run pos pins _ σ H _ (I.tok _) h) fun us s1 ⟨vs, H1, I1, r1, a, C, B, nw, mr, ws, ev, hl, T, ea, q⟩ => ?_) he hpl
  subst ev
  cases r1 with
  | @cons _ u0 _ ur ra rw' =>
    obtain rfl : u0 = Value.ref a := ra
    have hz : ur.length ≤ sizeLine := by rw [← Paired.length rw', sizeLine_eq]; omega
    exact initB_ok T I1 ea hz fun s' J => ⟨.non, H1, J, rfl, q⟩
theorem ps_fs (ho : PE X o to) (he : PE X e te) (hs : swapsWith e (some (.Attribute o f p')) pos.line X.env = pure false := by rfl) : PS X (.Assign [.Attribute o f p'] e pos) (tFs X.K f to te) := by
  refine ⟨fun pins s σ H D I h => ?_⟩
  refine plainObj_wpAny_Assign_Attribute (thn (he.run pins s σ H _ I h) fun v s1 ⟨y, H1, I1, r1, q1⟩ => thn (ho.run pins s1 σ H1 _ I1 q1) fun u s2 ⟨x, H2, I2, r2, a, C, B, nw, ini, mr, ex, T, hno, q⟩ => ?_) hs
  subst ex
  obtain rfl : u = Value.ref a := r2
  rcases q with ⟨ea, q⟩ | ⟨dx, fs, ea, ed, hl, q⟩
  · exact stB_new T I2 ea hno r1 fun dx s' n ne J => ⟨σ, _, J, q dx n ne⟩
  · exact stB_old T I2 ea ed hl hno r1 fun s' J => ⟨σ, _, J, q⟩
end
end Z

/-! # Errors of the program: __init__ as a def, an error made and raised -/
namespace Z
open PySem PySem.Spec PyProof.Rows L2 PySem.W PySem.HandSPX

/-- __init__ of an error with the fields fs -/
def spI (C : Addr) (fs : List Str) : Sp := fun vs H Q _ => ∃ (a : Addr) (ws : List V), vs = .ref a :: ws ∧ ws.length = fs.length ∧ H a = some (exo a C none) ∧
  ∀ (dx : Addr) (H' : Hp), H dx = none → dx ≠ a → H' a = some (exo a C (some dx)) → H' dx = some (exd dx (fs.zip ws).reverse) → (∀ b, b ≠ a → b ≠ dx → H' b = H b) → Q .non H'
/-- an own class is called, its __init__ read off it -/
def InitForm (b : Str) (p1 p2 p3 p4 pos : Pos) (txt : Str) (j : Nat) : Prop := ∀ env : Env, ∃ pl : Sem Bool, eval (.Call (.Attribute (.Name b p1) "__init__" p2) [.Name "self" p3, .Constant (.str txt) j p4] [] pos) env = (do
      let ov ← eval (.Name b p1) env
      standAt p2.atName
      let (f, first) ← holding [ov] (getMethod ov "__init__" pl)
      callWith pos f first (backTo pos (starEach [.Name "self" p3, .Constant (.str txt) j p4] env)) (backToKw pos (keywordEach [] env)))
section
variable {P : Program} {w : World} {K : PySem.W.Frag} {mg : Str → Option Value} {base : Heap} {qual b f g : Str} {st : Stmt} {fI C : Addr} {fd : FuncData} {B nw ini : String} {mr : List Value}
/-- the scope of an __init__ -/
structure ScI (st : Stmt) (b : Str) (fs : List Str) : Prop where
  S : FnScope (("self" : Str) :: fs) (("self" : Str) :: fs) (defScope st)
  s0 : (defScope st).names.lookup ("self" : Str) = some .local
  s1 : ∀ f ∈ fs, (defScope st).names.lookup f = some .local
  sb : (defScope st).names.lookup b = some .globalImplicit
theorem len_spI {fs : List Str} : ∀ (vs : List V) (H : Hp) (Q : VK) (E : XK), spI C fs vs H Q E → vs.length = (("self" : Str) :: fs).length := fun vs H Q E h => by
  obtain ⟨a, ws, rfl, hl, _⟩ := h
  simp [hl]
theorem init1 (F : Fun K "__init__" qual st fI fd) (sc : ScI st b [f]) (hdb : (b == ("__debug__" : Str)) = false) (hf1 : (f == ("__debug__" : Str)) = false) (hf2 : (f == ("__classdict__" : Str)) = false) (BI : BaseI K mg b ini) (T : OexB K C B nw ini mr) (hno : takerIn K C f = some none)
    {txt : Str} {j : Nat} {p1 p2 p3 p4 p5 p6 q1 q2 q3 q4 : Pos}
    (hb : defBody st = [.Expr (.Call (.Attribute (.Name b p1) "__init__" p2) [.Name "self" p3, .Constant (.str txt) j p4] [] p5) p6, .Assign [.Attribute (.Name "self" q1) f q2] (.Name f q3) q4])
    (fm : InitForm b p1 p2 p3 p4 p5 txt j) (hw1 : ∀ env : Env, swapsWith (.Call (.Attribute (.Name b p1) "__init__" p2) [.Name "self" p3, .Constant (.str txt) j p4] [] p5) none p6.line env = pure false)
    (hw2 : ∀ env : Env, swapsWith (.Name f q3) (some (.Attribute (.Name "self" q1) f q2)) q4.line env = pure false) : FnOk P w K mg base CX0 1 fI fd ["self", f] (spI C [f]) := by
  refine F.ok sc.S len_spI (fun cdv A outer s H vs Q E hr h => ?_)
  obtain ⟨a, ws, rfl, hl, ha, hq⟩ := h
  match ws, hl with
  | [y], _ =>
    rw [hb]
    obtain ⟨pl, hc⟩ := fm (envOfC qual (defScope st) s.heap.objs.size fI cdv)
    refine ⟨_, pss_cons (ps_expr (pe_bi (pl := pl) BI sc.sb (pa_cons (pe_var (i := 0) rfl (.inl sc.s0)) (pa_cons pe_str pa_nil)) hc hdb) (hw1 _))
      (pss_one (ps_fs (pe_var (i := 0) rfl (.inl sc.s0)) (pe_var (i := 1) rfl (.inl (sc.s1 f (List.mem_singleton.mpr rfl))) hf1 hf2) (hw2 _))), ?_⟩
    refine ⟨_, rfl, a, C, B, nw, mr, [.str txt], rfl, (by show 1 ≤ 1000; decide), T, ha, ?_⟩
    refine ⟨_, rfl, _, rfl, a, C, B, nw, ini, mr, rfl, T, hno, .inl ⟨ha, fun dx hd hn => ?_⟩⟩
    exact hq dx _ hd hn upd_same ((upd_ne hn).trans upd_same) fun c h1 h2 => (upd_ne h1).trans (upd_ne h2)
end
/-- C(e, ..) with the fields fs -/
def tMk (C : Addr) (fs : List Str) (ta : TA) : L2.St → Hp → XK → Prop := fun σ H Q => ta σ H fun vs H1 => vs.length = fs.length ∧ ∀ d, H1 d = none → Q (.ref C) (some d) (upd H1 d (.xd (fs.zip vs).reverse))
section
variable {X : Cx} {x : Str} {e : Expr} {es : List Expr} {ta : TA} {p pos : Pos} {C fI : Addr} {fd : FuncData} {fs : List Str} {B nw ini : String} {mr : List Value} {k : Nat}
theorem pmkB (T : OexB X.K C B nw ini mr) (iC : findIn X.K (.ref C) "__init__" = some (some (.ref fI))) (tI : typeIn X.K (.ref fI) = some (.type "function")) (hfs : fs.length ≤ 1000)
    (F1 : FnOk X.prog X.w X.K X.mg X.base CX0 k fI fd (("self" : Str) :: fs) (spI C fs)) (hr : Room (k + 1) X.A) (hb : Binds X.K fd (("self" : Str) :: fs) []) (hg : Gl X x) (hm : X.mg x = some (.ref C)) (ha : PA X (e :: es) ta)
    (hdb : (x == ("__debug__" : Str)) = false) (he : starEach (e :: es) X.env = (false, eval e X.env) :: starEach es X.env := by rfl) (hpl : (backTo pos (starEach es X.env)).any (·.1) = false := by rfl) :
    L2N.PMk X (.Call (.Name x p) (e :: es) [] pos) (tMk C fs ta) := by
  intro pins s σ H Q I h
  obtain ⟨nm, q, N, bs, bm, sn, sub, ab, col, dd, k0, k1, k2, k3, k5, hC, hbm⟩ := T.cls
  refine wpAny_Call_Name_kw (ld_glob I hg hm ?_ hdb)
  refine callWith_K (h₀ := X.base) I.ok.mod.kin T.kC (thn (ha.run pos pins s σ H _ I h) fun us s1 ⟨vs, H1, I1, r1, hz, q1⟩ => ⟨I1.kIn, ?_⟩) he hpl
  show wpAny _ _ (call (.ref C) us) _ _ _
  obtain ⟨hp, gg, dr, tk, os⟩ := s1
  obtain ⟨a, ea⟩ : ∃ a, a = hp.objs.size + 1 := ⟨_, rfl⟩
  have asz : hp.objs.size ≤ a := by omega
  have hn : H1 a = none := I1.hok.fresh asz
  have kk : ∀ b o, hp.get? b = some o → ((hp.push (kdv_tup us)).push (excO C hp.objs.size)).get? b = some o := fun b o z => Heap.get?_push_of_some _ (Heap.get?_push_of_some _ z)
  have hget : ((hp.push (kdv_tup us)).push (excO C hp.objs.size)).get? a = some (excO C hp.objs.size) := by rw [ea]; heap_get
  have I2 : Inv X pins σ (upd H1 a (exo a C none)) ⟨(hp.push (kdv_tup us)).push (excO C hp.objs.size), gg, dr, tk, os⟩ := I1.laid (t' := tk) kk asz (exo_ok hget)
  have r2 : Vals (V.ref a :: vs) (Value.ref a :: us) := .cons rfl r1
  have hvl : (V.ref a :: vs).length = (("self" : Str) :: fs).length := by simp [hz]
  have hul : us.length = fs.length := r1.length.symm.trans hz
  have huz : us.length ≤ sizeLine := by rw [sizeLine_eq]; omega
  have sp : spI C fs (V.ref a :: vs) (upd H1 a (exo a C none)) (fun v H2 => v = .non ∧ ∃ d, H2 a = some (exo a C (some d)) ∧ H2 d = some (exd d (fs.zip vs).reverse) ∧ H1 d = none ∧ upd (del H2 a) d (.xd (fs.zip vs).reverse) = upd H1 d (.xd (fs.zip vs).reverse)) E0 := by
    refine ⟨a, vs, rfl, hz, upd_same, fun dx H' hd hne h1 h2 h3 => ⟨rfl, dx, h1, h2, by rw [upd_ne hne] at hd; exact hd, funext fun c => ?_⟩⟩
    by_cases hc : c = dx
    · rw [hc, upd_same, upd_same]
    · rw [upd_ne hc, upd_ne hc]
      by_cases hca : c = a
      · rw [hca, del_same, hn]
      · rw [del_ne hca, h3 c hca hc, upd_ne hca]
  have hbd := hb ⟨(hp.push (kdv_tup us)).push (excO C hp.objs.size), gg, dr, tk, os⟩ (Value.ref a :: us) I2.kIn (by simp [hul])
  rw [List.append_nil] at hbd
  refine wpAny_call (call_own T.FB (fun Y => excTail_contains Y bm hbm) (I1.kIn _ _ hC) (looks_findIn I1.kIn iC) (fun self => bind_fn I1.kIn self tI) huz ?_)
  rw [← ea]
  refine codeAny_mono (F1.run _ X.stack _ _ ⟨Value.ref a :: us, []⟩ (Value.ref a :: us) _ _ E0 (hr.make C us []) (I2.env0.make C us []) hbd r2 sp) fun r s' hq' => ?_
  cases r with
  | error er => exact False.elim hq'
  | ok fl =>
    cases fl with
    | ret u =>
      obtain ⟨v, H2, os2, bare2, un2, hok2, rv, ev, d, e1, e2, e3, e4⟩ := hq'
      subst ev
      obtain ⟨h2, g2, d2, t2, os'⟩ := s'
      obtain ⟨t0, G, J, kG, ge, hoe, na⟩ := mk_end0 (d2 := d2) (t2 := t2) I1 asz kk un2 hok2 os2 bare2 e1 e2 e3
      rw [e4] at J na
      exact ⟨rv, a, _, _, ⟨G, g2, d2, t2, os'⟩, _, .ref C, some d, rfl, J, kG, ge, hoe, ⟨rfl, rfl, fun vs z => by cases z; rfl⟩, rfl, rfl, na, rfl, bare2, raises_own T.exC T.tyC, q1 d e3⟩
    | next => exact False.elim hq'
    | brk => exact False.elim hq'
    | cont => exact False.elim hq'
end
end Z

/-! # Readings in which an error may come up -/
namespace Z
open PySem PySem.Spec PyProof.Rows L2

def clsN : Nat → Str
  | 0 => "NoPaper"
  | 1 => "NoEnd"
  | 2 => "NoPage"
  | 3 => "NoText"
  | 4 => "NoRow"
  | 5 => "NoName"
  | 6 => "NoPile"
  | 7 => "NoStep"
  | 8 => "NoPart"
  | _ => "NoBack"
def Out {α : Type} (r : Rs α) (P : α → Sto → Prop) (E : Dv → Sto → Prop) : Prop := match r with
  | .ok a s => P a s
  | .exc e s => E e s
  | .bad => False
theorem Out.bind {α β : Type} {r : Rs α} {f : α → Sto → Rs β} {P : β → Sto → Prop} {E : Dv → Sto → Prop} (h : Out (r.bind f) P E) : Out r (fun a s => Out (f a s) P E) E := by
  cases r <;> exact h
theorem Out.mono {α : Type} {r : Rs α} {P Q : α → Sto → Prop} {E F : Dv → Sto → Prop} (h : Out r P E) (hp : ∀ a s, P a s → Q a s) (he : ∀ e s, E e s → F e s) : Out r Q F := by
  cases r with
  | ok a s => exact hp _ _ h
  | exc e s => exact he _ _ h
  | bad => exact h
/-- what raises nothing -/
def Rs.sure {α : Type} (r : Rs α) : Rs α := match r with
  | .exc _ _ => .bad
  | r => r
theorem Out.sure {α : Type} {r : Rs α} {P : α → Sto → Prop} {E : Dv → Sto → Prop} (h : Out r.sure P E) : ∃ a s, r = .ok a s ∧ P a s := by
  cases r with
  | ok a s => exact ⟨a, s, rfl, h⟩
  | exc e s => exact False.elim h
  | bad => exact False.elim h
theorem Out.iff {α : Type} {c : Bool} {r : Rs α} {P : α → Sto → Prop} {E : Dv → Sto → Prop} (h : Out (Rs.iff c r) P E) : c = true ∧ Out r P E := by
  unfold Rs.iff at h
  split at h
  · exact ⟨by assumption, h⟩
  · exact False.elim h

/-- an error in the air, of class cls with its dict d -/
def XRp (K : PySem.W.Frag) (mg : Str → Option Value) (B : Lo) (H : Hp) (e : Dv) (cls : Value) (d : Option Addr) : Prop :=
  ∃ (c : Nat) (fs : List Dv) (C dd : Addr) (kvs : List (Str × V)) (vs : List V), e = .xn 0 0 c fs ∧ mg (clsN c) = some (.ref C) ∧ cls = .ref C ∧ d = some dd ∧ H dd = some (.xd kvs) ∧ dd ∉ B.locs ∧ dd ∉ B.hid ∧
    (fldN c).mapM (fun f => kvs.lookup f) = some vs ∧ Rps K B H fs vs
def XPost (K : PySem.W.Frag) (mg : Str → Option Value) (W : Value → Option Addr → Hp → Prop) (B : Lo) (H : Hp) (s' : Sto) (e : Dv) : Prop :=
  ∀ (B' : Lo) (H' : Hp) (cls : Value) (d : Option Addr), Ext B H B' H' → B'.hid = B.hid → Sim K B' H' s' → XRp K mg B' H' e cls d → W cls d H'
section
variable {K : PySem.W.Frag} {mg : Str → Option Value} {W : WX} {B B1 : Lo} {H H1 : Hp} {σ : L2.St} {s' : Sto} {e d : Dv} {Q : VK}
theorem XPost.ahead {W : Value → Option Addr → Hp → Prop} (h : XPost K mg W B H s' e) (x : Ext B H B1 H1) (ee : B1.hid = B.hid) : XPost K mg W B1 H1 s' e := fun B' H' cls d x' e' S r => h B' H' cls d (x.trans x') (e'.trans ee) S r
theorem PostZ.ahead (h : PostZ K B H s' d Q) (x : Ext B H B1 H1) (ee : B1.hid = B.hid) : PostZ K B1 H1 s' d Q := fun B' H' v x' e' S r => h B' H' v (x.trans x') (e'.trans ee) S r
end
/-- the wish at the slots σ -/
abbrev WAt (W : WX) (σ : L2.St) : Value → Option Addr → Hp → Prop := fun cls d H => W cls d σ H
def tX (K : PySem.W.Frag) (mg : Str → Option Value) (W : WX) (f : Fn Dv) : TE := fun σ H Q => ∃ B env s, RpE K B H env σ ∧ Sim K B H s ∧ Out (f env s) (fun d s' => PostZ K B H s' d Q) (fun e s' => XPost K mg (WAt W σ) B H s' e)
def tXA (K : PySem.W.Frag) (mg : Str → Option Value) (W : WX) (f : Fn (List Dv)) : TA := fun σ H Q => ∃ B env s, RpE K B H env σ ∧ Sim K B H s ∧
  Out (f env s) (fun ds s' => ∀ (B' : Lo) (H' : Hp) (vs : List V), Ext B H B' H' → B'.hid = B.hid → Sim K B' H' s' → Rps K B' H' ds vs → Q vs H') (fun e s' => XPost K mg (WAt W σ) B H s' e)
def tXS (K : PySem.W.Frag) (mg : Str → Option Value) (W : WX) (f : Fn Ct) : TS := fun D σ H => ∃ B env s, RpE K B H env σ ∧ Sim K B H s ∧ Out (f env s) (fun c s' => PostC K B H s' D c) (fun e s' => XPost K mg (WAt W σ) B H s' e)
abbrev ZX (X : Cx) (W : WX) (e : Expr) (f : Fn Dv) : Prop := PE X e (tX X.K X.mg W f)
abbrev ZXA (X : Cx) (W : WX) (es : List Expr) (f : Fn (List Dv)) : Prop := PA X es (tXA X.K X.mg W f)
abbrev ZXS (X : Cx) (W : WX) (st : Stmt) (f : Fn Ct) : Prop := PS X st (tXS X.K X.mg W f)
abbrev ZXB (X : Cx) (W : WX) (st : List Stmt) (f : Fn Ct) : Prop := PSs X st (tXS X.K X.mg W f)
def fSure {α : Type} (f : Fn α) : Fn α := fun env s => (f env s).sure
section
variable {G : Gz} {bs : List Str} {k : Nat} {X : Cx} {N : List Str} {nm : List (Str × NameKind)} {ow : Str → Bool} {W : WX} {a b c e o i v : Expr} {es : List Expr} {fa fb fc : Fn Dv} {fs : Fn (List Dv)} {pos p : Pos} {x : Str} {i j : Nat} {st : Stmt} {rest ss tt : List Stmt} {f g : Fn Ct} {tc : Fn Bool}
theorem zxa_sure (h : ZA X es fs) : ZXA X W es (fSure fs) := pa_mono h fun σ H Q q => by
  obtain ⟨B, env, s, hE, hS, hf⟩ := q
  obtain ⟨d, s', h1, h2⟩ := hf.sure
  exact ⟨B, env, s, d, s', hE, hS, h1, h2⟩
theorem zxb_sure (h : ZB X ss f) : ZXB X W ss (fSure f) := pss_mono h fun D σ H q => by
  obtain ⟨B, env, s, hE, hS, hf⟩ := q
  obtain ⟨d, s', h1, h2⟩ := hf.sure
  exact ⟨B, env, s, d, s', hE, hS, h1, h2⟩
/-- an operator whose operands may raise -/
def sure3 (g : Dv → Dv → Sto → Rs Dv) : Dv → Dv → Sto → Rs Dv := fun x y s => (g x y s).sure
theorem zx_bin_to {r : R2} {gg : Dv → Dv → Sto → Rs Dv} (hg : OpZ X.K r gg) : ∀ σ H Q, tX X.K X.mg W (fBin (sure3 gg) fa fb) σ H Q → tOp r (tX X.K X.mg W fa) (tX X.K X.mg W fb) σ H Q := fun σ H Q q => by
  obtain ⟨B, env, s, hE, hS, hf⟩ := q
  refine ⟨B, env, s, hE, hS, hf.bind.mono (fun y s1 h1 B1 H1 v x1 e1 S1 r1 => ?_) fun _ _ h => h⟩
  refine ⟨B1, env, s1, hE.mono x1.mo, S1, h1.bind.mono (fun z s2 h2 B2 H2 w x2 e2 S2 r2 => ?_) fun _ _ h => h.ahead x1 e1⟩
  obtain ⟨d, s', h3, h4⟩ := h2.sure
  exact hg B2 H2 s2 y z v w d s' Q S2 (r1.mono x2.mo) r2 h3 (h4.ahead (x1.trans x2) (e2.trans e1))
theorem zx_lt (ha : ZX X W a fa) (hb : ZX X W b fb) : ZX X W (.Compare a [.Lt] [b] pos) (fBin (sure3 gLt) fa fb) := pe_mono (pe_cmpR or_lt ha hb (nomark _)) (zx_bin_to oz_ord)
/-- a[i] of what may raise, a tuple or a list -/
def gIxS (x y : Dv) (s : Sto) : Rs Dv := match y with
  | .int i => match (seqOf s x).bind (atI · i) with | some d => .ok d s | none => .bad
  | _ => .bad
def rSeqX (K : PySem.W.Frag) : V → V → Hp → VK → Prop := fun v w H Q => (∃ p xs i u, v = .ref p ∧ w = .int i ∧ SqL K H p xs ∧ atI xs i = some u ∧ Q u H) ∨ ∃ p xs i u, v = .ref p ∧ w = .int i ∧ SqT K H p xs ∧ atI xs i = some u ∧ Q u H
/-! ### statements -/
theorem zxb_nil : ZXB X W [] fNop := pss_mono pss_nil fun D σ H q => by
  obtain ⟨B, env, s, hE, hS, hf⟩ := q
  exact hf B H σ (Ext.refl _ _) rfl hS hE
theorem zxs_cons (E : XK) (h1 : ZXS X (fun cls d _ H => E cls d H) st f) (h2 : ZXB X (fun cls d _ H => E cls d H) rest g) : ZXB X (fun cls d _ H => E cls d H) (st :: rest) (fSeq f g) := by
  refine pss_mono (pss_cons h1 h2) fun D σ H q => ?_
  obtain ⟨B, env, s, hE, hS, hf⟩ := q
  refine ⟨B, env, s, hE, hS, hf.bind.mono (fun c1 s1 h1 => ?_) fun _ _ h => h⟩
  cases c1 with
  | next e1 => exact fun B1 H1 σ1 x1 ee S1 r1 => ⟨B1, e1, s1, r1, S1, h1.mono (fun c s' h => h.ahead x1 ee) fun _ _ h => h.ahead x1 ee⟩
  | ret d => exact h1
  | brk d => exact h1
  | cont d => exact h1
theorem zxs_one (h1 : ZXS X W st f) : ZXB X W [st] f := pss_one h1
theorem zxs_expr (h : ZX X W e fa) (hs : swapsWith e none pos.line X.env = pure false := by rfl) : ZXS X W (.Expr e pos) (fDrop fa) := by
  refine ps_mono (ps_expr h hs) fun D σ H q => ?_
  obtain ⟨B, env, s, hE, hS, hf⟩ := q
  exact ⟨B, env, s, hE, hS, hf.bind.mono (fun d s1 h1 B1 H1 v x1 e1 S1 r1 => h1 B1 H1 σ x1 e1 S1 (hE.mono x1.mo)) fun _ _ h => h⟩
theorem zxs_ret (h : ZX X W e fa) : ZXS X W (.Return (some e) pos) (fRet fa) := by
  refine ps_mono (ps_ret h) fun D σ H q => ?_
  obtain ⟨B, env, s, hE, hS, hf⟩ := q
  exact ⟨B, env, s, hE, hS, hf.bind.mono (fun d s1 h1 B1 H1 v x1 e1 S1 r1 => h1 B1 H1 v x1 e1 S1 r1) fun _ _ h => h⟩
theorem zxs_if (hc : ZT X a tc) (hp : ZXB X W ss f) (hq : ZXB X W tt g) : ZXS X W (.If a ss tt pos) (fIfS (fSure tc) f g) := by
  refine ps_mono (ps_if hc hp hq) fun D σ H q => ?_
  obtain ⟨B, env, s, hE, hS, hf⟩ := q
  obtain ⟨b, s1, h1, hf⟩ := hf.bind.sure
  refine ⟨B, env, s, _, _, hE, hS, h1, fun B1 H1 x1 e1 S1 => ?_⟩
  split at hf
  · rename_i hx
    rw [if_pos hx]
    exact ⟨B1, env, s1, hE.mono x1.mo, S1, hf.mono (fun c s' h => h.ahead x1 e1) fun _ _ h => h.ahead x1 e1⟩
  · rename_i hx
    rw [if_neg hx]
    exact ⟨B1, env, s1, hE.mono x1.mo, S1, hf.mono (fun c s' h => h.ahead x1 e1) fun _ _ h => h.ahead x1 e1⟩
end
end Z

/-! # Defs that may raise; raise; their calls -/
namespace Z
open PySem PySem.Spec PyProof.Rows L2

/-! ### raise -/
structure ErrC (G : Gz) (c : Nat) : Prop where
  ex : ∃ (C fI : Addr) (fd : FuncData) (B nw ini : String) (mr : List Value), G.mg (clsN c) = some (.ref C) ∧ OexB G.K C B nw ini mr ∧ PySem.W.findIn G.K (.ref C) "__init__" = some (some (.ref fI)) ∧
    PySem.W.typeIn G.K (.ref fI) = some (.type "function") ∧ Binds G.K fd ("self" :: fldN c) [] ∧ FnOk G.prog G.w G.K G.mg G.base CX0 1 fI fd ("self" :: fldN c) (spI C (fldN c))
def fRaise (cn : Nat) (fs : Fn (List Dv)) : Fn Ct := fun env s => (fs env s).bind fun ds s1 => Rs.iff (ds.length == (fldN cn).length) (.exc (.xn 0 0 cn ds) s1)
theorem fld_look : ∀ (c : Nat) (vs : List V), vs.length = (fldN c).length → (fldN c).mapM (fun f => ((fldN c).zip vs).reverse.lookup f) = some vs := by
  intro c vs h
  have two : ∀ (f g : Str) (v w : V), f ≠ g → ([f, g] : List Str).mapM (fun x => ([f, g].zip [v, w]).reverse.lookup x) = some [v, w] := fun f g v w n => by
    have e1 : (g == f) = false := by simpa using Ne.symm n
    have e2 : (f == g) = false := by simpa using n
    simp [List.lookup, e1, e2]
  have one : ∀ (f : Str) (v : V), ([f] : List Str).mapM (fun x => ([f].zip [v]).reverse.lookup x) = some [v] := fun f v => by simp [List.lookup]
  have nil : ([] : List Str).mapM (fun x => (([] : List Str).zip ([] : List V)).reverse.lookup x) = some [] := by simp
  match c, vs, h with
  | 0, [v, w], _ => exact two _ _ v w (by decide +kernel)
  | 1, [v], _ => exact one _ v
  | 2, [v], _ => exact one _ v
  | 3, [v, w], _ => exact two _ _ v w (by decide +kernel)
  | 4, [v], _ => exact one _ v
  | 5, [v], _ => exact one _ v
  | 6, [v], _ => exact one _ v
  | 7, [v], _ => exact one _ v
  | 8, [v], _ => exact one _ v
  | _ + 9, [], _ => exact nil
theorem fld_len : ∀ c : Nat, (fldN c).length ≤ 1000
  | 0 | 1 | 2 | 3 | 4 | 5 | 6 | 7 | 8 => by decide
  | _ + 9 => Nat.zero_le _
section
variable {G : Gz} {bs : List Str} {k : Nat} {X : Cx} {N : List Str} {nm : List (Str × NameKind)} {ow : Str → Bool} {W : WX} {e : Expr} {es : List Expr} {fs : Fn (List Dv)} {pos p pos2 : Pos} {cn : Nat} {x : Str} {n : Nat} {φ : Phi}
theorem zxs_raise (cn : Nat) (c : Cz G bs k X N nm ow) (hk : 2 ≤ k) (T : ErrC G cn) (tk : L2N.Takes X W) (ha : ZXA X W (e :: es) fs) (hg : gOk nm (clsN cn) = true := by decide +kernel) (hdb : (clsN cn == ("__debug__" : Str)) = false := by decide +kernel)
    (he : starEach (e :: es) X.env = (false, eval e X.env) :: starEach es X.env := by rfl) (hpl : (backTo pos (starEach es X.env)).any (·.1) = false := by rfl) :
    ZXS X W (.Raise (some (.Call (.Name (clsN cn) p) (e :: es) [] pos)) none pos2) (fRaise cn fs) := by
  obtain ⟨C, fI, fd, B0, nw, ini, mr, h1, h2, h3, h4, h5, h6⟩ := T.ex
  rw [← c.gK] at h2 h3 h4 h5
  have h6' : FnOk X.prog X.w X.K X.mg X.base CX0 1 fI fd ("self" :: fldN cn) (spI C (fldN cn)) := by rw [c.gp, c.gw, c.gK, c.gm, c.gb]; exact h6
  rw [← c.gm] at h1
  refine ps_mono (L2N.ps_raise c.calm tk (pmkB h2 h3 h4 (fld_len cn) h6' (c.rm.mono hk) h5 (c.gl hg) h1 ha hdb he hpl)) fun D σ H q => ?_
  obtain ⟨B, env, s, hE, hS, hf⟩ := q
  refine ⟨B, env, s, hE, hS, hf.bind.mono (fun ds s1 hh B1 H1 vs x1 e1 S1 r1 => ?_) fun _ _ h => h⟩
  obtain ⟨hl, hx⟩ := hh.iff
  have hl' : vs.length = (fldN cn).length := r1.length.symm.trans (beq_iff_eq.mp hl)
  refine ⟨hl', fun d hd => ?_⟩
  have xl : Ext B1 H1 B1 (upd H1 d (.xd ((fldN cn).zip vs).reverse)) := Ext.laid hd
  refine hx B1 _ (.ref C) (some d) (x1.trans xl) e1 (S1.laid hd) ⟨cn, ds, C, d, _, vs, rfl, h1, rfl, rfl, upd_same, S1.free hd, S1.freeH hd, fld_look cn vs hl', r1.mono xl.mo⟩

/-! ### calls -/
def spX (K : PySem.W.Frag) (mg : Str → Option Value) (n : Nat) (φ : Phi) : Sp := fun vs H Q E => vs.length = n ∧ ∃ B ds s, Rps K B H ds vs ∧ Sim K B H s ∧ Out (φ ds s) (fun d s' => PostZ K B H s' d Q) (fun e s' => XPost K mg E B H s' e)
/-- a def that may raise, at f -/
structure FnX (G : Gz) (k : Nat) (f : Addr) (fd : FuncData) (ps : List Str) (sp : Sp) : Prop where
  run : ∀ (A : Around) (outer : List Env) (s : Shared) (H : Hp) (args : Args) (us : List Value) (vs : List V) (Q : VK) (E : XK), A.guards = some [] → Room k A → Env0 G.prog G.w G.K G.mg G.base A outer s H → BindsTo s fd args (ps.zip us) → Vals vs us → sp vs H Q E →
    codeAny (model G.prog G.w) A (.call (.ref f) args) (CR (L2N.CX G.prog G.w) outer G.prog G.w H s Q E) s
structure FzX (G : Gz) (k : Nat) (x : Str) (n : Nat) (φ : Phi) : Prop where
  len : ∀ ds s, φ ds s ≠ .bad → ds.length = n
  ex : ∃ (f : Addr) (fd : FuncData) (ps : List Str), G.mg x = some (.ref f) ∧ PySem.W.keepIn G.K (.ref f) = true ∧ Binds G.K fd ps [] ∧ ps.length = n ∧ FnX G k f fd ps (spX G.K G.mg n φ)
theorem FzX.mono {j : Nat} (F : FzX G j x n φ) (h : j ≤ k) : FzX G k x n φ := by
  obtain ⟨f, fd, ps, h1, h2, h3, h4, h5⟩ := F.ex
  exact ⟨F.len, f, fd, ps, h1, h2, h3, h4, ⟨fun A outer s H args us vs Q E hg hr => h5.run A outer s H args us vs Q E hg (hr.mono h)⟩⟩
theorem Out.nb {α : Type} {r : Rs α} {P : α → Sto → Prop} {E : Dv → Sto → Prop} (h : Out r P E) : r ≠ .bad := fun z => by rw [z] at h; exact h
theorem run_fnX (c : Cz G bs k X N nm ow) (tk : L2N.Takes X W) {f : Addr} {fd : FuncData} {ps : List Str} (hb : Binds G.K fd ps []) (hn : ps.length = n) (F : FnX G k f fd ps (spX G.K G.mg n φ)) {pins : List (Addr × Obj)} {σ : L2.St} {H : Hp} {s : Shared} {Q : VK} {us : List Value} {vs : List V}
    (I : Inv X pins σ H s) (r : Vals vs us) (h : spX X.K X.mg n φ vs H Q (WE W σ)) : wpAny (model X.prog X.w) X.A (call (.ref f) us) (EP X pins σ Q) X.xe s := by
  have hl : (us ++ []).length = ps.length := by rw [List.append_nil, ← r.length, h.1, hn]
  have hbind := hb s us (by rw [← c.gK]; exact I.kIn) hl
  rw [List.append_nil] at hbind
  have e0 := I.env0
  rw [c.gp, c.gw, c.gK, c.gm, c.gb] at e0
  rw [c.gK, c.gm] at h
  have run := F.run X.A X.stack s H ⟨us, []⟩ us vs Q (WE W σ) c.gd c.rm e0 hbind r h
  rw [← c.gp, ← c.gw] at run
  refine wpAny_call (codeAny_mono run fun r s' hq => ?_)
  cases r with
  | error e => exact L2N.passAt tk σ pins H s e s' I hq
  | ok fl =>
    cases fl with
    | ret u => exact I.after hq
    | next => exact False.elim hq
    | brk => exact False.elim hq
    | cont => exact False.elim hq
/-- a def that may raise is called, arguments that may raise -/
theorem zx_callx (c : Cz G bs k X N nm ow) (tk : L2N.Takes X W) (F : FzX G k x n φ) (ha : ZXA X W (e :: es) fs) (hg : gOk nm x = true := by decide +kernel) (hdb : (x == ("__debug__" : Str)) = false := by decide +kernel)
    (he : starEach (e :: es) X.env = (false, eval e X.env) :: starEach es X.env := by rfl) (hpl : (backTo pos (starEach es X.env)).any (·.1) = false := by rfl) :
    ZX X W (.Call (.Name x p) (e :: es) [] pos) (fCall φ fs) := by
  obtain ⟨f, fd, ps, h1, h2, h3, h4, h5⟩ := F.ex
  refine ⟨fun pins s σ H Q I h => ?_⟩
  refine wpAny_Call_Name_kw (ld_glob I (c.gl hg) (by rw [c.gm]; exact h1) ?_ hdb)
  obtain ⟨B, env, st, hE, hS, hf⟩ := h
  refine PySem.W.callWith_K (h₀ := X.base) I.ok.mod.kin (by rw [c.gK]; exact h2) (thn (ha.run pos pins s σ H (fun vs H1 => spX X.K X.mg n φ vs H1 Q (WE W σ)) I ⟨B, env, st, hE, hS, hf.bind.mono (fun ds st1 ho B1 H1 vs x1 e1 S1 r1 => ?_) fun _ _ h => h⟩) fun us s1 ⟨vs, H1, I1, r, q⟩ => ⟨I1.kIn, ?_⟩) he hpl
  · exact ⟨by rw [← r1.length]; exact F.len _ _ ho.nb, B1, ds, st1, r1, S1, ho.mono (fun d s' h => h.ahead x1 e1) fun e s' h => h.ahead x1 e1⟩
  · exact run_fnX c tk h3 h4 h5 I1 r q
/-- a def that raises nothing, arguments that may raise -/
def sureP (φ : Phi) : Phi := fun ds s => (φ ds s).sure
end

/-! ### what an error leaves of a def's store -/
theorem cut_ext {K : PySem.W.Frag} {B B' : Lo} {H H' : Hp} {s s1 : Sto} (S : Sim K B H s) (x : Ext B H B' H') (S' : Sim K B' H' s1) (hk : keepsZ s.length s1 = true) : Ext B H ⟨B.locs, B'.hid⟩ H' ∧ Sim K ⟨B.locs, B'.hid⟩ H' (s1.take s.length) := by
  have hlen : B.locs.length = s.length := S.len
  refine ⟨⟨⟨List.prefix_refl _, x.mo.keep, x.mo.tups, x.mo.frzs, fun b z => x.mo.new b (z.elim (fun z => .inl (x.mo.pre.subset z)) .inr), x.mo.tbls⟩, x.keepH, x.sub, fun b z => .inl z⟩, S.nd, ?_, fun n a o e1 e2 => ?_, fun b hb => ?_, fun y hy c P q => (S'.tabs y hy c P q).cut x.mo.pre⟩
  · rw [List.length_take, ← S'.len]
    have := x.mo.pre.length_le
    show B.locs.length = _
    omega
  · have hn : n < s.length := by rw [← hlen]; exact (List.getElem?_eq_some_iff.mp e1).1
    rw [List.getElem?_take_of_lt hn] at e2
    have hb : belowO s.length o = true := by
      refine List.all_eq_true.mp hk o (List.mem_of_getElem? (i := n) ?_)
      rw [List.getElem?_take_of_lt hn]; exact e2
    exact (S'.obs n a o (pre_get x.mo.pre e1) e2).cut x.mo.pre hlen (fun _ z => z) hb
  · obtain ⟨h1, h2⟩ := S'.hid b hb
    exact ⟨fun z => h1 (x.mo.pre.subset z), h2⟩
def gcX {α : Type} (b : Nat) (e : Dv) (s : Sto) : Rs α := if (below b e && keepsZ b s) = true then .exc e (s.take b) else .bad
theorem gcX_ok {α : Type} {K : PySem.W.Frag} {mg : Str → Option Value} {B : Lo} {H : Hp} {s s1 : Sto} {e : Dv} {W : Value → Option Addr → Hp → Prop} {P : α → Sto → Prop} (S : Sim K B H s) (h : Out (gcX (α := α) s.length e s1) P (fun e s' => XPost K mg W B H s' e)) : XPost K mg W B H s1 e := by
  unfold gcX at h
  split at h
  · rename_i hc
    rw [Bool.and_eq_true] at hc
    intro B' H' cls d x eh S' r
    obtain ⟨y1, y2⟩ := cut_ext S x S' hc.2
    obtain ⟨c, fs, C, dd, kvs, vs, rfl, h1, h2, h3, h4, h5, h6, h7, h8⟩ := r
    refine h ⟨B.locs, B'.hid⟩ H' cls d y1 eh y2 ⟨c, fs, C, dd, kvs, vs, rfl, h1, h2, h3, h4, fun z => h5 (x.mo.pre.subset z), h6, h7, h8.cut x.mo.pre S.len (fun _ z => z) ?_⟩
    simpa [below] using hc.1
  · exact False.elim h
def fDefX (n m : Nat) (body : Fn Ct) (ds : List Dv) (s : Sto) : Rs Dv :=
  Rs.iff (ds.length == n) (match body (ds.map some ++ List.replicate (m - n) none) s with
    | .ok (.next _) s1 => gcZ s.length .non s1
    | .ok (.ret d) s1 => gcZ s.length d s1
    | .exc e s1 => gcX s.length e s1
    | _ => .bad)
theorem gcZ_shape (b : Nat) (d : Dv) (s : Sto) : ∃ d' s', gcZ b d s = .ok d' s' := by
  unfold gcZ
  split
  · exact ⟨_, _, rfl⟩
  · split
    · split
      · split <;> exact ⟨_, _, rfl⟩
      · exact ⟨_, _, rfl⟩
    · exact ⟨_, _, rfl⟩
/-- a def of the text that may raise -/
theorem z_fnX {G : Gz} {bs : List Str} {k : Nat} {x qual : Str} {st : Stmt} {f : Addr} {fd : FuncData} {N ps : List Str} {nm : List (Str × NameKind)} {body : Fn Ct} (F : Fun G.K x qual st f fd) (S : FnScope N ps (defScope st)) (hnm : (defScope st).names = nm)
    (hbl : ∀ y ∈ bs, G.mg y = none) (hbody : ∀ (X : Cx) (E : XK), Cz G bs k X N nm (fun _ => true) → L2N.Takes X (fun cls d _ H => E cls d H) → ZXB X (fun cls d _ H => E cls d H) (defBody st) body) :
    FnX G (k + 1) f fd ps (spX G.K G.mg ps.length (fDefX ps.length N.length body)) := by
  obtain ⟨oc, od, kV, doc, pm, an, cdv, ct, osl, rfl, lk, hcd⟩ := F.ex
  refine ⟨fun A outer s H args us vs Q E hgd hr e0 hb r hsp => ?_⟩
  obtain ⟨hvl, B, ds, st0, rd, S0, hf⟩ := hsp
  have KX : G.K.In s.heap := e0.mod.kin.keeps fun b o e => (e0.bs b o e).1
  have lim : s.heap.NoLimit := e0.mod.nolimit.keeps fun b o e => (e0.bs b o e).1
  have hkind : ∀ y ∈ ps.zip us, (defScope st).names.lookup y.1 = some .local ∨ ((defScope st).names.lookup y.1 = some .cell ∧ ((cellsFrom (s.heap.objs.size + 1) (defScope st).names []).lookup y.1).isSome = true) := fun ⟨n, v⟩ hy => by
    rcases S.par n (List.of_mem_zip hy).1 with q | q
    · exact .inl q
    · exact .inr ⟨q, PySem.W.cellsFrom_some _ _ _ (.inl q)⟩
  refine codeAny_call_function hr.depth (KX _ _ lk) rfl S.co S.gen rfl (PySem.W.codeRec_of KX hcd) (hb _ _ _ _ ?_)
  refine wpAny_newFunctionEnv_cells S.kind hkind fun env he s1 x1 => ?_
  subst he
  refine ⟨lim.keeps x1.toInCall.keep, codeAny_func ?_⟩
  obtain ⟨hdl, hf⟩ := Out.iff hf
  have hdl : ds.length = ps.length := beq_iff_eq.mp hdl
  have I := inv_start (CX := L2N.CX G.prog G.w) (E := E) S hr.hd e0 hvl r x1
  have cz : Cz G bs k (cxOf (L2N.CX G.prog G.w) G.prog G.w G.K G.mg G.base N qual (defScope st) f cdv A outer s H E) N nm (fun _ => true) :=
    ⟨rfl, S.nd, S.kind, hnm, rfl, rfl, hr.deeper _, hgd, hbl, rfl, rfl, rfl, rfl, rfl, passes_of rfl⟩
  have hz := (hbody _ E cz (L2N.takes_of rfl rfl rfl rfl)).run [] s1 (start N vs) H { nx := fun _ H' => Q .non H', rt := Q } I ⟨B, _, st0, start_rp (N := N) rd, S0, ?_⟩
  · refine wpAny_mono hz (fun fl s' hs => ?_) fun e s' hs => hs
    have fin : ∀ {σ' : L2.St} {H' : Hp} {v : V} {u : Value}, Inv (cxOf (L2N.CX G.prog G.w) G.prog G.w G.K G.mg G.base N qual (defScope st) f cdv A outer s H E) [] σ' H' s' → RelV v u → Q v H' → CE outer G.prog G.w H s Q u s' :=
      fun {σ' H' v u} J rv q => ⟨v, H', J.os, J.bare, J.base, J.hok, rv, q⟩
    cases fl with
    | ret u => obtain ⟨v, σ', H', J, rv, q⟩ := hs; exact fin J rv q
    | next => obtain ⟨σ', H', J, q⟩ := hs; exact fin (v := V.non) (u := Value.none) J rfl q
    | brk => obtain ⟨_, _, _, q⟩ := hs; exact False.elim q
    | cont => obtain ⟨_, _, _, q⟩ := hs; exact False.elim q
  · rw [← hdl] at hf
    cases hbd : body (ds.map some ++ List.replicate (N.length - ds.length) none) st0 with
    | bad => rw [hbd] at hf; exact False.elim hf
    | exc e s2 => rw [hbd] at hf; exact gcX_ok S0 hf
    | ok ct s2 =>
      rw [hbd] at hf
      cases ct with
      | next env =>
        obtain ⟨d', s', e3⟩ := gcZ_shape st0.length .non s2
        have hf' : Out (gcZ st0.length .non s2) (fun d s' => PostZ G.K B H s' d Q) (fun e s' => XPost G.K G.mg E B H s' e) := hf
        rw [e3] at hf'
        exact fun B' H' σ' x e S' _ => gc_ok S0 e3 hf' B' H' .non x e S' .non
      | ret d =>
        obtain ⟨d', s', e3⟩ := gcZ_shape st0.length d s2
        have hf' : Out (gcZ st0.length d s2) (fun d s' => PostZ G.K B H s' d Q) (fun e s' => XPost G.K G.mg E B H s' e) := hf
        rw [e3] at hf'
        exact fun B' H' v x e S' r => gc_ok S0 e3 hf' B' H' v x e S' r
      | brk _ => exact False.elim hf
      | cont _ => exact False.elim hf
theorem fzx_mk {G : Gz} {bs : List Str} {k n : Nat} {x qual : Str} {st : Stmt} {f : Addr} {fd : FuncData} {N ps : List Str} {nm : List (Str × NameKind)} {body : Fn Ct} (F : Fun G.K x qual st f fd) (hm : G.mg x = some (.ref f)) (hb : Binds G.K fd ps []) (hn : ps.length = n) (S : FnScope N ps (defScope st)) (hnm : (defScope st).names = nm)
    (hbl : ∀ y ∈ bs, G.mg y = none) (hbody : ∀ (X : Cx) (E : XK), Cz G bs k X N nm (fun _ => true) → L2N.Takes X (fun cls d _ H => E cls d H) → ZXB X (fun cls d _ H => E cls d H) (defBody st) body) : FzX G (k + 1) x n (fDefX n N.length body) := by
  subst hn
  refine ⟨fun ds s h => ?_, f, fd, ps, hm, F.kp, hb, rfl, z_fnX F S hnm hbl hbody⟩
  unfold fDefX Rs.iff at h
  split at h
  · rename_i hc; exact beq_iff_eq.mp hc
  · exact absurd rfl h
end Z

/-! # The errors' classes: who is whose; isinstance, fields -/
namespace Z
open PySem PySem.Spec PyProof.Rows L2 PySem.W

theorem nbeq (i j : Nat) : (j == i) = (i == j) := by
  by_cases h : i = j
  · rw [h]
  · rw [beq_eq_false_iff_ne.mpr h, beq_eq_false_iff_ne.mpr (Ne.symm h)]
/-- the names of the classes: the ten, their two bases -/
def tN : Nat → Str
  | 10 => "CountError"
  | 11 => "LostError"
  | i => clsN i
def veT : List Value := [.type "ValueError", .type "Exception", .type "BaseException", .type "object"]
def leT : List Value := [.type "LookupError", .type "Exception", .type "BaseException", .type "object"]
def mrT (A : Nat → Addr) (i : Nat) : List Value := if i ≤ 4 then .ref (A 10) :: veT else if i ≤ 9 then .ref (A 11) :: leT else if i = 10 then veT else leT
/-- a class that the text has -/
def Has (pr : Nat → Bool) (i : Nat) : Prop := i < 12 ∧ pr i = true
/-- what the top has written of the classes -/
structure ErrsT (K : PySem.W.Frag) (mg : Str → Option Value) (A : Nat → Addr) (pr : Nat → Bool) : Prop where
  p10 : pr 10 = true
  p11 : pr 11 = true
  mg : ∀ i, Has pr i → mg (tN i) = some (.ref (A i))
  lk : ∀ i, Has pr i → ∃ q N bs sn sub ab col dd k0 k1 k2 k3 k5 nw, K.lookup (A i) = some (excClassObj (tN i) q (A i) N bs (mrT A i) true sn sub ab col dd k0 k1 k2 k3 k5 nw)
  ty : ∀ i, Has pr i → typeIn K (.ref (A i)) = some (.type "type")
  ga : ∀ i, i < 9 → pr i = true → findIn K (.ref (A i)) "__getattribute__" = some (some (.builtin "BaseException.__getattribute__"))
  gg : ∀ i, i < 9 → pr i = true → findIn K (.ref (A i)) "__getattr__" = some none
  cl : ∀ i, i < 9 → pr i = true → findIn K (.ref (A i)) "__class__" = some (some (.builtin "object.__class__"))
  fn : ∀ i, i < 9 → pr i = true → ∀ f ∈ fldN i, findIn K (.ref (A i)) f = some none
  sg : specialIn K (.builtin "object.__class__") "__get__" = some (some (.builtin "getset_descriptor.__get__"))
  tk : takesIn K (.builtin "object.__class__") = some true
section
variable {K : PySem.W.Frag} {mg : Str → Option Value} {A : Nat → Addr} {pr : Nat → Bool} (T : ErrsT K mg A pr)
theorem tN_inj : ∀ i, i < 12 → ∀ j, j < 12 → tN i = tN j → i = j := by decide +kernel
include T
theorem ErrsT.inj {i j : Nat} (hi : Has pr i) (hj : Has pr j) (h : A i = A j) : i = j := by
  obtain ⟨q, N, bs, sn, sub, ab, col, dd, k0, k1, k2, k3, k5, nw, e⟩ := T.lk i hi
  obtain ⟨q', N', bs', sn', sub', ab', col', dd', k0', k1', k2', k3', k5', nw', e'⟩ := T.lk j hj
  rw [h, e'] at e
  have e := Option.some.inj e
  unfold excClassObj at e
  injection e with _ _ e _
  injection e with e
  injection e with e
  exact (tN_inj j hj.1 i hi.1 e).symm
theorem ErrsT.cls {i : Nat} (hi : Has pr i) : ∃ cd : ClassData, clsIn K (A i) = some cd ∧ cd.mro = .ref (A i) :: mrT A i ∧ cd.hasDict = true := by
  obtain ⟨q, N, bs, sn, sub, ab, col, dd, k0, k1, k2, k3, k5, nw, e⟩ := T.lk i hi
  refine ⟨{ name := tN i, bases := bs, mro := .ref (A i) :: mrT A i, ns := N, qualname := q, hasDict := true, slotNames := sn, subclasses := sub, abstract := ab, collection := col, hasDel := false }, ?_, rfl, rfl⟩
  unfold clsIn; rw [e]
theorem ErrsT.sub {i : Nat} (hi : Has pr i) (v : Value) : subIn K (.ref (A i)) v = some ((Value.ref (A i) :: mrT A i).contains v) := by
  obtain ⟨cd, h1, h2, _⟩ := T.cls hi
  show mroIn K (A i) v = _
  unfold mroIn
  rw [h1, Option.bind_some, h2]
  rfl
def bsN (i : Nat) : Nat := if i ≤ 4 then 10 else 11
/-- an own class is the class j or beneath it -/
def subO (i j : Nat) : Bool := i == j || (decide (i < 10) && j == bsN i)
theorem ErrsT.subO {i j : Nat} (hi : Has pr i) (hj : Has pr j) : subIn K (.ref (A i)) (.ref (A j)) = some (Z.subO i j) := by
  rw [T.sub hi]
  have inj : ∀ a b : Nat, Has pr a → Has pr b → (Value.ref (A a) == Value.ref (A b)) = (a == b) := fun a b ha hb => by
    by_cases h : a = b
    · subst h; simp
    · rw [show (a == b) = false by simpa using h]
      refine Bool.eq_false_iff.mpr fun z => h (T.inj ha hb (Value.ref.inj (beq_iff_eq.mp z)))
  have nt : ∀ (s : String) (a : Nat), (Value.ref (A a) == Value.type s) = false := fun s a => Bool.eq_false_iff.mpr fun z => by cases beq_iff_eq.mp z
  have e1 := inj j i hj hi
  unfold Z.subO mrT bsN
  by_cases h4 : i ≤ 4
  · have e2 := inj j 10 hj ⟨by decide, T.p10⟩
    rw [if_pos h4, if_pos h4]
    simp only [List.contains_cons, veT, e1, e2, nt, List.contains_nil, Bool.or_false, show decide (i < 10) = true from decide_eq_true (by omega), Bool.true_and]
    rw [nbeq i j]
  · rw [if_neg h4, if_neg h4]
    by_cases h9 : i ≤ 9
    · have e2 := inj j 11 hj ⟨by decide, T.p11⟩
      rw [if_pos h9]
      simp only [List.contains_cons, leT, e1, e2, nt, List.contains_nil, Bool.or_false, show decide (i < 10) = true from decide_eq_true (by omega), Bool.true_and]
      rw [nbeq i j]
    · rw [if_neg h9]
      simp only [show decide (i < 10) = false from decide_eq_false (by omega), Bool.false_and, Bool.or_false]
      split <;> simp only [List.contains_cons, veT, leT, e1, nt, List.contains_nil, Bool.or_false] <;> rw [nbeq i j]
theorem ErrsT.kit {i j : Nat} (hi : Has pr i) (hj : Has pr j) : kitCls K (.ref (A i)) (.ref (A j)) = some (Z.subO i j) ∧ kitOne K (.ref (A i)) (.ref (A j)) = some (Z.subO i j) ∧ exmOne K (.ref (A i)) (.ref (A j)) = some (Z.subO i j) := by
  have h1 : kitCls K (.ref (A i)) (.ref (A j)) = some (Z.subO i j) := by
    obtain ⟨cd, hc, _⟩ := T.cls hj
    have hh : ((clsIn K (A j)).isSome && typeIn K (.ref (A j)) == some (.type "type")) = true := by rw [hc, T.ty j hj]; rfl
    show (if ((clsIn K (A j)).isSome && typeIn K (.ref (A j)) == some (.type "type")) = true then subIn K (.ref (A i)) (.ref (A j)) else none) = _
    rw [if_pos hh, T.subO hi hj]
  refine ⟨h1, ?_, ?_⟩
  · unfold kitOne
    split
    · rename_i e
      have := T.inj hi hj (Value.ref.inj (beq_iff_eq.mp e))
      subst this
      simp [Z.subO]
    · exact h1
  · unfold exmOne
    have hb : (subIn K (.ref (A j)) (.type "BaseException") == some true) = true := by
      rw [T.sub hj]
      unfold mrT
      split
      · simp [veT]
      · split
        · simp [leT]
        · split <;> simp [veT, leT]
    rw [if_pos hb, h1]
/-- .. is beneath ValueError, LookupError -/
theorem ErrsT.kitB {i : Nat} (hi : i < 9) (hp : pr i = true) (b : Bool) : kitOne K (.ref (A i)) (.type (if b then "LookupError" else "ValueError")) = some (b == decide (4 < i)) := by
  have h1 : kitCls K (.ref (A i)) (.type (if b then "LookupError" else "ValueError")) = some (b == decide (4 < i)) := by
    have hm : kitMeta (if b then "LookupError" else "ValueError") = true := by cases b <;> decide +kernel
    show (if kitMeta _ = true then subIn K (.ref (A i)) (.type _) else none) = _
    rw [if_pos hm, T.sub ⟨by omega, hp⟩]
    unfold mrT
    have nt : ∀ (s : String) (a : Nat), (Value.type s == Value.ref (A a)) = false := fun s a => Bool.eq_false_iff.mpr fun z => by cases beq_iff_eq.mp z
    by_cases h4 : i ≤ 4
    · rw [if_pos h4, decide_eq_false (by omega)]
      simp only [List.contains_cons, veT, nt]
      cases b <;> decide +kernel
    · rw [if_neg h4, if_pos (by omega), decide_eq_true (by omega)]
      simp only [List.contains_cons, leT, nt]
      cases b <;> decide +kernel
  unfold kitOne
  rw [if_neg (by simp), h1]
theorem ErrsT.exc {i : Nat} (hi : i < 9) (hp : pr i = true) : ExcC K (A i) ∧ XfC K (A i) := by
  have hs : subIn K (.ref (A i)) (.type "BaseException") = some true := by
    rw [T.sub ⟨by omega, hp⟩]
    unfold mrT
    by_cases h4 : i ≤ 4
    · rw [if_pos h4]; simp [veT]
    · rw [if_neg h4, if_pos (by omega)]; simp [leT]
  have ho : mroIn K (A i) (.type "object") = some true := by
    have := T.sub (i := i) ⟨by omega, hp⟩ (.type "object")
    rw [show mroIn K (A i) (.type "object") = subIn K (.ref (A i)) (.type "object") from rfl, this]
    unfold mrT
    by_cases h4 : i ≤ 4
    · rw [if_pos h4]; simp [veT]
    · rw [if_neg h4, if_pos (by omega)]; simp [leT]
  have hd : hasDictIn K (A i) = true := by
    obtain ⟨cd, h1, h2, h3⟩ := T.cls (i := i) ⟨by omega, hp⟩
    unfold hasDictIn
    rw [h1]
    exact h3
  exact ⟨⟨T.ga i hi hp, T.gg i hi hp, hs, hd, T.cl i hi hp, T.sg, T.tk, ho⟩, ⟨T.ga i hi hp, T.gg i hi hp, hs, hd⟩⟩
end
end Z

/-! # Where an error is handled: isinstance, its fields -/
namespace Z
open PySem PySem.Spec PyProof.Rows L2 PySem.W
variable {pr : Nat → Bool}

section
variable {prog : Program} {w : World} {A : Around} {E : Value → Shared → Prop} {s : Shared} {K : PySem.W.Frag} {x D : Addr} {ox : Obj} {od : Option Obj}
theorem find_cls (C : ExcC K D) : findObj K D od "__class__" = some (.bind (.builtin "getset_descriptor.__get__") (.builtin "object.__class__")) := by
  obtain ⟨cd, hc, _⟩ := any_some C.hd
  have ha := C.ha
  have hn := C.hn
  have ht := C.ht
  unfold findObj
  rw [hc, Option.bind_some, ha, Option.bind_some]
  simp [hn, ht]
/-- e.__class__, as isinstance asks for it -/
theorem kinE {Q : Option Value → Shared → Prop} (C : ExcC K D) (X : K.In s.heap) (I : InstAt s.heap x ox D od) (h : Q (some (.ref D)) { s with toks := s.toks + 1 }) : wpAny (model prog w) A (getAttr? (.ref x) "__class__") Q E s := by
  have hf := find_cls (od := od) C
  obtain ⟨hp, g, d, t, os⟩ := s
  have L0 := I.type (M := model prog w)
  have La := looks_findIn (M := model prog w) X C.hg
  have Lb := looks_findIn (M := model prog w) X C.hk
  have Lc := looks_find (M := model prog w) X I hf
  have sb : Looks (model prog w) hp (isInstance (.ref x) (.type "BaseException")) true := L0.andThen (looks_subIn X C.hs)
  have z2 : (Value.builtin "BaseException.__getattribute__" == Value.builtin "object.__getattribute__") = false := by decide +kernel
  have z1 : (onTheHeap (Value.ref D) && Value.builtin "BaseException.__getattribute__" == Value.builtin "object.__getattribute__") = false := by rw [z2, Bool.and_false]
  have z0 : (false && onTheHeap (Value.builtin "BaseException.__getattribute__")) = false := Bool.false_and _
  unfold getAttr? getAttrBy? getAttrBy
  refine wpAny_bind (wpAny_mkText (wpAny_bind (wpAny_attempt (wpAny_holding (wpAny_bind (L0.at (wpAny_bind (La.at ?_))))))))
  show wpAny _ _ (if (onTheHeap (Value.ref D) && _) = true then _ else _) _ _ _
  rw [z1, if_neg Bool.false_ne_true]
  unfold getAttrByItsOwn hookBefore
  refine wpAny_bind ?_
  rw [if_pos (show onTheHeap (Value.ref D) = true by rfl)]
  refine Lb.at (wpAny_bind (wpAny_attempt (wpAny_holding ?_)))
  unfold callGetattribute
  rw [z0, if_neg Bool.false_ne_true]
  unfold boundAndCalled
  rw [PySem.F.excAttr_ValueError.ga.bind]
  refine wpAny_bind (wpAny_pure ?_)
  refine wpAny_call (s := ⟨hp, g, d, t + 1, os⟩) (codeAny_call_builtin PySem.F.excAttr_ValueError.ga.plain PySem.F.entry_bexc_ga ?_)
  refine @check_slot (model prog w) _ _ ⟨hp, g, d, t + 1, os⟩ "BaseException.__getattribute__" "BaseException"
    "__getattribute__" (.ref x) [.str "__class__" t] [] _ (by decide +kernel) (by decide +kernel) sb (PySem.F.args_bexc_ga _ _) ?_
  unfold Builtin.«object.__getattribute__»
  refine wpAny_bind (wpAny_of_eq (a := ((Value.ref x : Value), [Value.str "__class__" t])) (by first | rfl | (simp only [slotArgs]; rfl)) ?_)
  refine wpAny_bind (wpAny_pure (wpAny_bind (L0.at (wpAny_bind (Lc.at ?_)))))
  refine wpAny_bind (m := holding [Value.builtin "object.__class__"] (call (.builtin "getset_descriptor.__get__") [.builtin "object.__class__", .ref x, .ref D])) (wpAny_holding (wpAny_call (class_get (s := ⟨hp, g, d, t + 1, os⟩) (ox := ox) (od := od) X I C.hm ?_)))
  refine wpAny_pure ?_
  show wpAny _ _ (handedOut (.ref D)) _ _ _
  rw [handedOut_of (v := .ref D) rfl]
  first
    | exact wpAny_pure (wpAny_pure h)
    | exact wpAny_pure h
    | exact wpAny_pure (wpAny_bind (wpAny_pure (wpAny_pure h)))
theorem kitE (C : ExcC K D) : KitX K (.ref x) (.ref D) (fun h => InstAt h x ox D od) where
  ty := fun _ _ _ I => I.type
  it := fun _ _ X _ => by
    obtain ⟨cd, hc, _⟩ := any_some C.hd
    unfold clsIn at hc
    split at hc
    · rename_i _ _ _ _ ho
      exact fun A' Q' E' s' k q => by
        unfold isType loadHead
        exact wpAny_bind (wpAny_loadPart (k _ _ (X _ _ ho)) (wpAny_pure q))
    · cases hc
  ne := fun h tp dd its n sl X htp => by
    obtain ⟨cd, hc, _⟩ := any_some C.hd
    refine Bool.eq_false_iff.mpr fun q => ?_
    obtain rfl : D = tp := Value.ref.inj (beq_iff_eq.mp q)
    unfold clsIn at hc
    split at hc
    · rename_i _ _ _ _ ho
      have z := (X _ _ ho).symm.trans htp
      cases z
    · cases hc
  ca := fun X I k => kinE C X I k
end

/-- where the error at a (its dict at dd, its class number c) is handled -/
structure Ch (pr : Nat → Bool) (G : Gz) (bs : List Str) (k : Nat) (X : Cx) (N : List Str) (nm : List (Str × NameKind)) (a dd : Addr) (c : Nat) : Prop where
  hN : X.N = N
  nd : N.Nodup
  kd : X.env.scope.kind = .function
  nm : X.env.scope.names = nm
  ow : X.fn = fun _ => true
  rm : L2H.RoomH k X.A
  gd : X.A.guards = some []
  bl : ∀ x ∈ bs, X.mg x = none
  gp : X.prog = G.prog
  gw : X.w = G.w
  gK : X.K = G.K
  gm : X.mg = G.mg
  gb : X.base = G.base
  c9 : c < 9
  cp : pr c = true
  hot : ∃ (A : Nat → Addr) (oe : Obj), ErrsT G.K G.mg A pr ∧ (a, oe) ∈ X.pn ∧ L2H.Hot1 X.A (a, oe) ∧ oe.cls = .ref (A c) ∧ oe.dict = some dd
section
variable {G : Gz} {bs : List Str} {k : Nat} {X : Cx} {N : List Str} {nm : List (Str × NameKind)} {a dd : Addr} {cn : Nat} {x : Str} {i : Nat} {pos p p2 pos' : Pos} {e : Expr} {es : List Expr} {fa : Fn Dv} {fs : Fn (List Dv)}
theorem Ch.gl (c : Ch pr G bs k X N nm a dd cn) (h : gOk nm x = true) : Gl X x := by
  unfold gOk at h
  show X.env.scope.names.lookup x = _
  rw [c.nm]
  split at h
  · assumption
  · cases h
theorem Ch.blt (c : Ch pr G bs k X N nm a dd cn) (h : bOk bs nm x = true) : Gl X x ∧ X.mg x = none := by
  unfold bOk at h
  rw [Bool.and_eq_true] at h
  exact ⟨c.gl h.1, c.bl x (List.contains_iff_mem.mp h.2)⟩
theorem zh_var (c : Ch pr G bs k X N nm a dd cn) (h : vOk N nm i x = true) (hd : (x == ("__debug__" : Str)) = false := by decide +kernel) (hcd : (x == ("__classdict__" : Str)) = false := by decide +kernel) : ZE X (.Name x pos) (fVar i) := by
  have hv : X.N[i]? = some x ∧ Vis X.env.scope x := by
    unfold vOk at h
    rw [Bool.and_eq_true] at h
    refine ⟨by rw [c.hN]; exact of_decide_eq_true h.1, ?_⟩
    have h2 := h.2
    unfold Vis
    rw [c.nm]
    split at h2
    · rename_i e; exact .inl e
    · rename_i e; exact .inr (.inl e)
    · rename_i e; exact .inr (.inr e)
    · cases h2
  refine pe_mono (pe_var hv.1 hv.2 hd hcd) fun σ H Q q => ?_
  obtain ⟨B, env, s, d, s', hE, hS, hf, hQ⟩ := q
  obtain ⟨e, rfl⟩ := fVar_ok hf
  obtain ⟨v, ev, r⟩ := hE.2 i d e
  exact ⟨v, ev, hQ B H v (Ext.refl _ _) rfl hS r⟩
theorem zh_set (c : Ch pr G bs k X N nm a dd cn) (h : sOk N nm (fun _ => true) i x = true) (he : ZE X e fa) (hs : swapsWith e (some (.Name x pos')) pos.line X.env = pure false := by rfl) : ZS X (.Assign [.Name x pos'] e pos) (fSet i fa) := by
  have hl : X.N[i]? = some x ∧ L2.Loc X.env.scope x ∧ (X.fn x = true ∨ X.env.scope.names.lookup x = some .local) := by
    unfold sOk at h
    rw [Bool.and_eq_true] at h
    refine ⟨by rw [c.hN]; exact of_decide_eq_true h.1, ?_⟩
    have h2 := h.2
    unfold L2.Loc
    rw [c.nm, c.ow]
    split at h2
    · rename_i e; exact ⟨.inl e, .inr e⟩
    · rename_i e; exact ⟨.inr e, .inl rfl⟩
    · cases h2
  have nd : X.N.Nodup := by rw [c.hN]; exact c.nd
  exact ps_mono (ps_set nd hl.1 hl.2.1 he hs hl.2.2) (set_to fun _ _ _ h => h)

/-! ### isinstance -/
/-- the error itself -/
def gErr (a dd : Addr) (c : Nat) (d : Dv) : Option (List Dv) := match d with
  | .xn a' d' c' fs => if a' = a ∧ d' = dd ∧ c' = c then some fs else none
  | _ => none
theorem gErr_ok {c : Nat} {d : Dv} {fs : List Dv} (h : gErr a dd c d = some fs) : d = .xn a dd c fs := by
  unfold gErr at h
  split at h
  · split at h
    · rename_i q
      obtain ⟨rfl, rfl, rfl⟩ := q
      cases h; rfl
    · cases h
  · cases h
/-- the names that isinstance is asked about: an own class by its number, ValueError, LookupError -/
inductive Tn where
  | own (j : Nat) | base (b : Bool)
def Tn.name : Tn → Str
  | .own j => tN j
  | .base b => Str.ofString (if b then "LookupError" else "ValueError")
def Tn.is (c : Nat) : Tn → Bool
  | .own j => subO c j
  | .base b => b == decide (4 < c)
def Tn.ok (pr : Nat → Bool) : Tn → Bool
  | .own j => decide (j < 12) && pr j
  | .base _ => true
theorem Tn.okH {pr : Nat → Bool} {j : Nat} (h : Tn.ok pr (.own j) = true) : Has pr j := by
  have h : (decide (j < 12) && pr j) = true := h
  rw [Bool.and_eq_true] at h
  exact ⟨of_decide_eq_true h.1, h.2⟩
/-- what the name stands for -/
def Tn.val (A : Nat → Addr) : Tn → V
  | .own j => .ref (A j)
  | .base b => .ty (if b then "LookupError" else "ValueError")
def Tn.value (A : Nat → Addr) : Tn → Value
  | .own j => .ref (A j)
  | .base b => .type (if b then "LookupError" else "ValueError")
theorem Tn.rel (A : Nat → Addr) (t : Tn) : RelV (t.val A) (t.value A) := by cases t <;> rfl
theorem Tn.uniq (A : Nat → Addr) (t : Tn) : ∀ u, RelV (t.val A) u → u = t.value A := fun u h => by cases t <;> exact h
theorem Tn.kit {K : PySem.W.Frag} {mg : Str → Option Value} {A : Nat → Addr} (T : ErrsT K mg A pr) (h9 : cn < 9) (hp : pr cn = true) (t : Tn) (ht : t.ok pr = true) : kitOne K (.ref (A cn)) (t.value A) = some (t.is cn) := by
  cases t with
  | own j => exact (T.kit ⟨by omega, hp⟩ (Tn.okH ht)).2.1
  | base b => exact T.kitB h9 hp b
/-- the name as a value -/
def tOk (bs : List Str) (nm : List (Str × NameKind)) : Tn → Bool
  | .own j => gOk nm (tN j)
  | .base b => bOk bs nm (Str.ofString (if b then "LookupError" else "ValueError"))
theorem pe_tn (c : Ch pr G bs k X N nm a dd cn) {A : Nat → Addr} (T : ErrsT G.K G.mg A pr) (t : Tn) (ht : t.ok pr = true) (h : tOk bs nm t = true) : PE X (.Name t.name pos) (tC (t.val A)) := by
  cases t with
  | own j =>
    have hj : Has pr j := Tn.okH ht
    have hdb : ∀ i, i < 12 → (tN i == ("__debug__" : Str)) = false := by decide +kernel
    exact pe_glob (c.gl h) (by rw [c.gm]; exact T.mg j hj) rfl (hdb j hj.1)
  | base b =>
    have hb := c.blt h
    cases b with
    | true => exact pe_bltn hb.1 hb.2 (by decide +kernel) rfl (by decide +kernel) (by decide +kernel)
    | false => exact pe_bltn hb.1 hb.2 (by decide +kernel) rfl (by decide +kernel) (by decide +kernel)
/-- the reading of isinstance(e, T): asked of the error that is handled -/
def fIsx (a dd : Addr) (cn : Nat) (t : Tn) (f : Fn Dv) : Fn Dv := fun env s => (f env s).bind fun d s1 => match gErr a dd cn d with
  | some _ => .ok (.bl (t.is cn)) s1
  | none => .bad
def rIsx (X : Cx) (a dd : Addr) (C : Addr) : List V → Hp → VK → Prop := fun xs H Q => ∃ (v : V) (cv : Value) (b : Bool) (kvs : List (Str × V)), xs = [.ref a, v] ∧ H dd = some (.xd kvs) ∧ (∀ u, RelV v u → u = cv) ∧ kitOne X.K (.ref C) cv = some b ∧ Q (.bl b) H
theorem Ch.inst (c : Ch pr G bs k X N nm a dd cn) {A : Nat → Addr} {oe : Obj} (hp : (a, oe) ∈ X.pn) (hh : L2H.Hot1 X.A (a, oe)) (hc : oe.cls = .ref (A cn)) (hd : oe.dict = some dd) {pins : List (Addr × Obj)} {σ : L2.St} {H : Hp} {s : Shared} {kvs : List (Str × V)} (I : Inv X pins σ H s) (hx : H dd = some (.xd kvs)) :
    ∃ od, InstAt s.heap a oe (A cn) (some od) := by
  obtain ⟨hget, _⟩ := I.pin (a, oe) (List.mem_append_left _ hp)
  have hob : ObjOk X.prog X.w H s.heap dd (.xd kvs) := I.hok dd _ hx
  obtain ⟨mA, hns, _⟩ := hob
  obtain ⟨od, _, _, ho, _⟩ := hns
  obtain ⟨_, vs, hv, _⟩ := hh
  refine ⟨od, ?_⟩
  obtain ⟨oc, od', oda, osl⟩ := oe
  dsimp only at hc hd hv
  subst hc hd hv
  exact ⟨hget, rfl, rfl, ho⟩
theorem call_isx (c : Ch pr G bs k X N nm a dd cn) {A : Nat → Addr} {oe : Obj} (T : ErrsT G.K G.mg A pr) (hp : (a, oe) ∈ X.pn) (hh : L2H.Hot1 X.A (a, oe)) (hc : oe.cls = .ref (A cn)) (hd : oe.dict = some dd) : CallR X (.builtin "isinstance") (rIsx X a dd (A cn)) := by
  intro pins s σ H xs us Q I r h
  obtain ⟨v, cv, b, kvs, rfl, hx, hcv, e, q⟩ := h
  have hE := (T.exc c.c9 c.cp).1
  rw [← c.gK] at hE
  cases r with
  | cons rx rr =>
    cases rr with
    | cons rt rr =>
      cases rr
      cases rx
      have ec := hcv _ rt
      subst ec
      obtain ⟨od, J⟩ := c.inst hp hh hc hd I hx
      exact kia_one (kitE hE) I.kIn J e (fun z => nomatch z) fun tk => ⟨.bl b, H, I.kept (t' := tk) fun _ _ z => z, rfl, q⟩
theorem zh_isx (t : Tn) (c : Ch pr G bs k X N nm a dd cn) (he : ZE X e fa) (ht : t.ok pr = true := by decide) (h : tOk bs nm t = true := by decide +kernel) (hb : bOk bs nm "isinstance" = true := by decide +kernel)
    (h1 : starEach [e, .Name t.name p2] X.env = (false, eval e X.env) :: starEach [.Name t.name p2] X.env := by rfl) (h2 : starEach [.Name t.name p2] X.env = (false, eval (.Name t.name p2) X.env) :: starEach [] X.env := by rfl) (hpl : (backTo pos (starEach [.Name t.name p2] X.env)).any (·.1) = false := by rfl) :
    ZE X (.Call (.Name "isinstance" p) [e, .Name t.name p2] [] pos) (fIsx a dd cn t fa) := by
  obtain ⟨A, oe, T, hp, hh, hc, hd⟩ := c.hot
  refine pe_mono (pe_callB (call_isx c T hp hh hc hd) (c.blt hb).1 (c.blt hb).2 (by decide +kernel) (pa_cons he (pa_cons (pe_tn c T t ht h) pa_nil h2) h1) (by decide +kernel) (by decide +kernel) h1 hpl) fun σ H Q q => ?_
  obtain ⟨B, env, s, d, s', hE, hS, hf, hQ⟩ := q
  obtain ⟨y, s1, g1, hf⟩ := Rs.bind_ok hf
  split at hf
  · rename_i fs hg
    have hg := gErr_ok hg
    subst hg
    cases hf
    refine ⟨B, env, s, _, _, hE, hS, g1, fun B1 H1 v x1 e1 S1 r1 => ?_⟩
    cases r1 with
    | xn i1 i2 i3 i4 i5 => exact ⟨_, _, _, _, rfl, i1, t.uniq A, by rw [c.gK]; exact t.kit T c.c9 c.cp ht, hQ B1 H1 _ x1 e1 S1 (.bl _)⟩
  · cases hf
/-! isinstance(e, (T1, T2, ..)) -/
def fIsxT (a dd : Addr) (cn : Nat) (ts : List Tn) (f : Fn Dv) : Fn Dv := fun env s => (f env s).bind fun d s1 => match gErr a dd cn d with
  | some _ => .ok (.bl (ts.any fun t => t.is cn)) s1
  | none => .bad
def rIsxT (X : Cx) (a dd : Addr) (C : Addr) : List V → Hp → VK → Prop := fun xs H Q => ∃ (tp : Addr) (o : Obj) (ws : List V) (cvs : List Value) (b : Bool) (kvs : List (Str × V)), xs = [.ref a, .ref tp] ∧ H dd = some (.xd kvs) ∧ H tp = some (.frz o (.tup ws)) ∧
  (∀ us, Vals ws us → us = cvs) ∧ kitAny X.K (.ref C) cvs = some b ∧ Q (.bl b) H
theorem call_isxT (c : Ch pr G bs k X N nm a dd cn) {A : Nat → Addr} {oe : Obj} (T : ErrsT G.K G.mg A pr) (hp : (a, oe) ∈ X.pn) (hh : L2H.Hot1 X.A (a, oe)) (hc : oe.cls = .ref (A cn)) (hd : oe.dict = some dd) : CallR X (.builtin "isinstance") (rIsxT X a dd (A cn)) := by
  intro pins s σ H xs us Q I r h
  obtain ⟨tp, o, ws, cvs, b, kvs, rfl, hx, htp, hcv, e, q⟩ := h
  have hE := (T.exc c.c9 c.cp).1
  rw [← c.gK] at hE
  cases r with
  | cons rx rr =>
    cases rr with
    | cons rt rr =>
      cases rr
      cases rx; cases rt
      obtain ⟨od, J⟩ := c.inst hp hh hc hd I hx
      obtain ⟨h1, hz, us', r', ob, ho, e1, n, e2⟩ := (show ObjOk X.prog X.w H s.heap tp (.frz o (.tup ws)) from I.hok tp _ htp)
      rw [h1] at ho; cases ho
      have ec := hcv _ r'
      subst ec
      obtain ⟨oc, od2, oda, osl⟩ := o
      dsimp only at e1 e2
      subst e1 e2
      exact kia_tup (kitE hE) I.kIn J h1 e (fun z => nomatch z) fun tk => ⟨.bl b, H, I.kept (t' := tk) fun _ _ z => z, rfl, q⟩
theorem kit_any {K : PySem.W.Frag} {mg : Str → Option Value} {A : Nat → Addr} (T : ErrsT K mg A pr) (h9 : cn < 9) (hp : pr cn = true) : ∀ (ts : List Tn), ts.all (Tn.ok pr) = true → kitAny K (.ref (A cn)) (ts.map fun (t : Tn) => t.value A) = some (ts.any fun t => t.is cn)
  | [], _ => rfl
  | t :: r, h => by
    rw [List.all_cons, Bool.and_eq_true] at h
    have e := t.kit T h9 hp h.1
    show (match kitOne K (.ref (A cn)) (t.value A) with | some true => some true | some false => kitAny K (.ref (A cn)) (r.map fun (t : Tn) => t.value A) | none => none) = _
    rw [e, List.any_cons]
    cases t.is cn with
    | true => rfl
    | false => exact kit_any T h9 hp r h.2
def tnE (l : List (Tn × Pos)) : List Expr := l.map fun (q : Tn × Pos) => .Name q.1.name q.2
def tTns (A : Nat → Addr) (ts : List Tn) : TA := fun σ H Q => Q (ts.map fun t => t.val A) H
/-- the names as a tuple's items -/
theorem pa_tns (c : Ch pr G bs k X N nm a dd cn) {A : Nat → Addr} (T : ErrsT G.K G.mg A pr) : ∀ (l : List (Tn × Pos)), (l.all fun q => q.1.ok pr && tOk bs nm q.1) = true → (∀ (m : List (Tn × Pos)) (q : Tn × Pos), starEach (.Name (Tn.name q.1) q.2 :: tnE m) X.env = (false, eval (.Name (Tn.name q.1) q.2) X.env) :: starEach (tnE m) X.env) →
    PA X (tnE l) (tTns A (l.map (·.1)))
  | [], _, _ => pa_mono pa_nil fun σ H Q q => q
  | t :: r, h, hs => by
    rw [List.all_cons, Bool.and_eq_true, Bool.and_eq_true] at h
    exact pa_mono (pa_cons (pe_tn c T t.1 h.1.1 h.1.2) (pa_tns c T r h.2 hs) (hs r t)) fun σ H Q q => q
theorem zh_isxT {kk : Nat} {tpos : Pos} (l : List (Tn × Pos)) (c : Ch pr G bs k X N nm a dd cn) (he : ZE X e fa) (hl : (l.all fun q => q.1.ok pr && tOk bs nm q.1) = true := by decide +kernel) (hz : l.length ≤ 1000 := by decide) (hb : bOk bs nm "isinstance" = true := by decide +kernel)
    (hs : ∀ (m : List (Tn × Pos)) (q : Tn × Pos), starEach (.Name (Tn.name q.1) q.2 :: tnE m) X.env = (false, eval (.Name (Tn.name q.1) q.2) X.env) :: starEach (tnE m) X.env := by intros; rfl)
    (h1 : starEach [e, .Tuple (tnE l) kk tpos] X.env = (false, eval e X.env) :: starEach [.Tuple (tnE l) kk tpos] X.env := by rfl)
    (h2 : starEach [.Tuple (tnE l) kk tpos] X.env = (false, eval (.Tuple (tnE l) kk tpos) X.env) :: starEach [] X.env := by rfl)
    (hpl : (backTo pos (starEach [.Tuple (tnE l) kk tpos] X.env)).any (·.1) = false := by rfl) :
    ZE X (.Call (.Name "isinstance" p) [e, .Tuple (tnE l) kk tpos] [] pos) (fIsxT a dd cn (l.map (·.1)) fa) := by
  obtain ⟨A, oe, T, hp, hh, hc, hd⟩ := c.hot
  refine pe_mono (pe_callB (call_isxT c T hp hh hc hd) (c.blt hb).1 (c.blt hb).2 (by decide +kernel) (pa_cons he (pa_cons (pe_tupK (pa_tns c T l hl hs)) pa_nil h2) h1) (by decide +kernel) (by decide +kernel) h1 hpl) fun σ H Q q => ?_
  obtain ⟨B, env, s, d, s', hE, hS, hf, hQ⟩ := q
  obtain ⟨y, s1, g1, hf⟩ := Rs.bind_ok hf
  split at hf
  · rename_i fs hg
    have hg := gErr_ok hg
    subst hg
    cases hf
    refine ⟨B, env, s, _, _, hE, hS, g1, fun B1 H1 v x1 e1 S1 r1 => ?_⟩
    cases r1 with
    | @xn _ _ _ _ kvs0 vs0 i1 i2 i3 i4 i5 =>
      refine ⟨by rw [List.length_map, List.length_map, sizeLine_eq]; omega, fun tp o htp hdo => ?_⟩
      have hok : (l.map (·.1)).all (Tn.ok pr) = true := by
        rw [List.all_map]
        refine List.all_eq_true.mpr fun q hq => ?_
        have := List.all_eq_true.mp hl q hq
        rw [Bool.and_eq_true] at this
        exact this.1
      have hxd : (upd H1 tp (.frz o (.tup ((l.map (·.1)).map fun t => t.val A)))) dd = some (.xd kvs0) := by rw [upd_ne (ne_of_none i1 htp)]; exact i1
      have vals : ∀ (ts : List Tn) (us : List Value), Vals (ts.map fun (t : Tn) => t.val A) us → us = ts.map fun t => t.value A := by
        intro ts
        induction ts with
        | nil => intro us r; cases r; rfl
        | cons t r ih =>
          intro us rr
          cases rr with
          | cons q1 q2 => rw [t.uniq A _ q1, ih _ q2]; rfl
      refine ⟨tp, o, _, _, _, _, rfl, hxd, upd_same, vals _, by rw [c.gK]; exact kit_any T c.c9 c.cp _ hok, ?_⟩
      exact hQ B1 _ _ (x1.trans (Ext.laid htp)) e1 (S1.laid htp) (.bl _)
  · cases hf
/-! ### e.f -/
def fFld (a dd : Addr) (cn j : Nat) (f : Fn Dv) : Fn Dv := fun env s => (f env s).bind fun d s1 => match gErr a dd cn d with
  | some fs => match fs[j]? with | some x => .ok x s1 | none => .bad
  | none => .bad
theorem mapM_get {α β : Type} {f : α → Option β} : ∀ {l : List α} {ys : List β}, l.mapM f = some ys → ∀ {j : Nat} {a : α}, l[j]? = some a → ∃ y, f a = some y ∧ ys[j]? = some y
  | [], ys, h, j, a, e => by simp at e
  | b :: l, ys, h, j, a, e => by
    obtain ⟨y, r, h1, h2, rfl⟩ := mapM_cons_some h
    cases j with
    | zero => simp at e; subst e; exact ⟨y, h1, rfl⟩
    | succ j =>
      obtain ⟨z, h3, h4⟩ := mapM_get h2 (j := j) (a := a) (by simpa using e)
      exact ⟨z, h3, by simpa using h4⟩
end
end Z

/-! # Where an error is handled: its fields, defs called there -/
namespace Z
open PySem PySem.Spec PyProof.Rows L2 PySem.W
variable {pr : Nat → Bool}
section
variable {G : Gz} {bs : List Str} {k : Nat} {X : Cx} {N : List Str} {nm : List (Str × NameKind)} {a dd : Addr} {cn : Nat} {x : Str} {i n : Nat} {pos p p2 pos' : Pos} {e e2 : Expr} {es : List Expr} {fa fb : Fn Dv} {fs : Fn (List Dv)}
/-- the reading of e.f -/
def fFldX (a dd : Addr) (cn : Nat) (f : Str) (g : Fn Dv) : Fn Dv := fun env s => (g env s).bind fun d s1 => match gErr a dd cn d with
  | some fs => match (fldN cn).findIdx? (· == f) with
    | some j => match fs[j]? with | some x => .ok x s1 | none => .bad
    | none => .bad
  | none => .bad
theorem zh_fld (f : Str) (c : Ch pr G bs k X N nm a dd cn) (he : ZE X e fa) (hb : attributeBase e f X.env (eval e X.env) = eval e X.env := by rfl) : ZE X (.Attribute e f pos) (fFldX a dd cn f fa) := by
  obtain ⟨A, oe, T, hp, hh, hc, hd⟩ := c.hot
  refine ⟨fun pins s σ H Q I q => ?_⟩
  obtain ⟨B, env, st, d, st', hE, hS, hf, hQ⟩ := q
  obtain ⟨y, s1, g1, hf⟩ := Rs.bind_ok hf
  split at hf
  · rename_i fs hg
    have hg := gErr_ok hg
    subst hg
    split at hf
    · rename_i j hj
      split at hf
      · rename_i z hz
        cases hf
        obtain ⟨hj1, hj2, _⟩ := List.findIdx?_eq_some_iff_getElem.mp hj
        have hjf : (fldN cn)[j]? = some f := by rw [List.getElem?_eq_getElem hj1, beq_iff_eq.mp hj2]
        refine attr_of hb (thn (he.run pins s σ H (fun v H1 => v = .ref a ∧ ∃ kvs w, H1 dd = some (.xd kvs) ∧ kvs.lookup f = some w ∧ Q w H1) I ⟨B, env, st, _, _, hE, hS, g1, fun B1 H1 v x1 e1 S1 r1 => ?_⟩) fun u s1 hh' => ?_)
        · cases r1 with
          | xn i1 i2 i3 i4 i5 =>
            obtain ⟨w, h1, h2⟩ := mapM_get i4 hjf
            obtain ⟨w', h3, h4⟩ := i5.get hz
            rw [h2] at h3; cases h3
            exact ⟨rfl, _, w, i1, h1, hQ B1 H1 w x1 e1 S1 h4⟩
        · obtain ⟨v, H1, I1, rv, ev, kvs, w, hx, hl, q⟩ := hh'
          subst ev
          obtain rfl : u = Value.ref a := rv
          have hob : ObjOk X.prog X.w H1 s1.heap dd (.xd kvs) := I1.hok dd _ hx
          obtain ⟨mA, hns, hr⟩ := hob
          obtain ⟨od, ho, hlk⟩ := lookIn_ns hns
          obtain ⟨u, hu, ru⟩ := RelO.some_of (v := w) (o := mA f) (by rw [← hl]; exact hr f)
          obtain ⟨ha, _⟩ := I1.pin (a, oe) (List.mem_append_left _ hp)
          obtain ⟨_, vs, hv, _⟩ := hh
          have J : InstAt s1.heap a oe (A cn) (some od) := by
            obtain ⟨oc, od', oda, osl⟩ := oe
            dsimp only at hc hd hv
            subst hc hd hv
            exact ⟨ha, rfl, rfl, ho⟩
          have hX := (T.exc c.c9 c.cp).2
          have hno := T.fn cn c.c9 c.cp f (List.mem_of_getElem? hjf)
          rw [← c.gK] at hX hno
          exact HandSPX.exc_get I1.kIn J hX.ga hX.gg hX.exC (findObj_own hX.hdC hno rfl (by rw [hlk, hu])) (handed_of ru) ⟨w, H1, I1.tok _, ru, q⟩
      · cases hf
    · cases hf
  · cases hf
/-- == of flat things -/
def gEqF (x y : Dv) (s : Sto) : Rs Dv := match x, y with
  | .int i, .int j => .ok (.bl (i == j)) s
  | .str i, .str j => .ok (.bl (i == j)) s
  | .bl i, .bl j => .ok (.bl (i == j)) s
  | _, _ => .bad
theorem oz_eqF {K : PySem.W.Frag} : OpZ K rEq gEqF := by
  intro B H s x y v w d s' Q S rx ry h q
  unfold gEqF at h
  split at h
  · cases h; cases rx; cases ry
    refine ⟨rfl, ?_⟩
    rw [dec_int]; exact q.same S (.bl _)
  · cases h; cases rx; cases ry
    refine ⟨rfl, ?_⟩
    rw [dec_str]; exact q.same S (.bl _)
  · cases h; cases rx; cases ry
    refine ⟨rfl, ?_⟩
    rw [dec_bl]; exact q.same S (.bl _)
  · cases h
theorem zh_eq (ha : ZE X e fa) (hb : ZE X e2 fb) : ZE X (.Compare e [.Eq] [e2] pos) (fBin gEqF fa fb) := z_cmp op_eq oz_eqF ha hb (nomark _)
/-! ### defs called there -/
abbrev PhiH := Addr → Addr → Nat → Phi
def spH (pr : Nat → Bool) (G : Gz) (n : Nat) (φ : PhiH) (vs : List V) (H : Hp) (Q : VK) (p : Addr × Obj) : Prop := vs.length = n ∧ ∃ (A : Nat → Addr) (c : Nat) (dd : Addr), ErrsT G.K G.mg A pr ∧ c < 9 ∧ pr c = true ∧ p.2.cls = .ref (A c) ∧ p.2.dict = some dd ∧
  ∃ B ds s d s', Rps G.K B H ds vs ∧ Sim G.K B H s ∧ φ p.1 dd c ds s = .ok d s' ∧ PostZ G.K B H s' d Q
structure FnHZ (G : Gz) (k : Nat) (f : Addr) (fd : FuncData) (ps : List Str) (sp : List V → Hp → VK → Addr × Obj → Prop) : Prop where
  run : ∀ (A : Around) (outer : List Env) (s : Shared) (H : Hp) (args : Args) (us : List Value) (vs : List V) (Q : VK) (p : Addr × Obj), A.guards = some [] → L2H.RoomH k A → L2H.Hot1 A p → L2H.PinOk outer H s p → Env0 G.prog G.w G.K G.mg G.base A outer s H → BindsTo s fd args (ps.zip us) → Vals vs us → sp vs H Q p →
    codeAny (model G.prog G.w) A (.call (.ref f) args) (CR CX0 outer G.prog G.w H s Q E0) s
structure FzH (pr : Nat → Bool) (G : Gz) (k : Nat) (x : Str) (n : Nat) (φ : PhiH) : Prop where
  len : ∀ a dd c ds s d s', φ a dd c ds s = .ok d s' → ds.length = n
  ex : ∃ (f : Addr) (fd : FuncData) (ps : List Str), G.mg x = some (.ref f) ∧ keepIn G.K (.ref f) = true ∧ Binds G.K fd ps [] ∧ ps.length = n ∧ FnHZ G k f fd ps (spH pr G n φ)
theorem FzH.mono {φ : PhiH} {j : Nat} (F : FzH pr G j x n φ) (h : j ≤ k) : FzH pr G k x n φ := by
  obtain ⟨f, fd, ps, h1, h2, h3, h4, h5⟩ := F.ex
  exact ⟨F.len, f, fd, ps, h1, h2, h3, h4, ⟨fun A outer s H args us vs Q p hg hr => h5.run A outer s H args us vs Q p hg (hr.mono h)⟩⟩
theorem zh_call {φ : PhiH} (c : Ch pr G bs k X N nm a dd cn) (F : FzH pr G k x n φ) (ha : ZA X (e :: es) fs) (hg : gOk nm x = true := by decide +kernel) (hdb : (x == ("__debug__" : Str)) = false := by decide +kernel)
    (he : starEach (e :: es) X.env = (false, eval e X.env) :: starEach es X.env := by rfl) (hpl : (backTo pos (starEach es X.env)).any (·.1) = false := by rfl) :
    ZE X (.Call (.Name x p) (e :: es) [] pos) (fCall (φ a dd cn) fs) := by
  obtain ⟨f, fd, ps, h1, h2, h3, h4, h5⟩ := F.ex
  obtain ⟨A, oe, T, hp, hh, hc, hd⟩ := c.hot
  refine ⟨fun pins s σ H Q I h => ?_⟩
  refine wpAny_Call_Name_kw (ld_glob I (c.gl hg) (by rw [c.gm]; exact h1) ?_ hdb)
  obtain ⟨B, env, st, d, st', hE, hS, hf, hQ⟩ := h
  obtain ⟨ds, st1, hf1, hf⟩ := Rs.bind_ok hf
  refine callWith_K (h₀ := X.base) I.ok.mod.kin (by rw [c.gK]; exact h2) (thn (ha.run pos pins s σ H (fun vs H1 => spH pr G n φ vs H1 Q (a, oe)) I ⟨B, env, st, ds, st1, hE, hS, hf1, fun B1 H1 vs x1 e1 S1 r1 => ?_⟩) fun us s1 ⟨vs, H1, I1, r, q⟩ => ⟨I1.kIn, ?_⟩) he hpl
  · rw [c.gK] at S1 r1
    exact ⟨by rw [← r1.length]; exact F.len _ _ _ _ _ _ _ hf, A, cn, dd, T, c.c9, c.cp, hc, hd, B1, ds, st1, d, st', r1, S1, hf, fun B2 H2 v x2 e2 S2 r2 => hQ B2 H2 v (x1.trans x2) (e2.trans e1) (by rw [c.gK]; exact S2) (by rw [c.gK]; exact r2)⟩
  · have hl : (us ++ []).length = ps.length := by rw [List.append_nil, ← r.length, q.1, h4]
    have hbind := h3 s1 us (by rw [← c.gK]; exact I1.kIn) hl
    rw [List.append_nil] at hbind
    have e0 := I1.env0
    rw [c.gp, c.gw, c.gK, c.gm, c.gb] at e0
    have P1 := I1.pin (a, oe) (List.mem_append_left _ hp)
    have hpin : L2H.PinOk X.stack H1 s1 (a, oe) := ⟨P1.1, P1.2.1, fun hm => (List.mem_cons.mp (I1.stkSub a hm)).elim P1.2.2.1 P1.2.2.2.1, P1.2.2.2.2⟩
    have run := h5.run X.A X.stack s1 H1 ⟨us, []⟩ us vs Q (a, oe) c.gd c.rm hh hpin e0 hbind r q
    rw [← c.gp, ← c.gw] at run
    refine wpAny_call (codeAny_mono run fun r s' hq => ?_)
    cases r with
    | error e => exact False.elim hq
    | ok fl =>
      cases fl with
      | ret u => exact I1.after hq
      | next => exact False.elim hq
      | brk => exact False.elim hq
      | cont => exact False.elim hq
end
/-- a def of the text, as it runs where an error is handled -/
theorem z_fnH {G : Gz} {bs : List Str} {k : Nat} {x qual : Str} {st : Stmt} {f : Addr} {fd : FuncData} {N ps : List Str} {nm : List (Str × NameKind)} {body : Addr → Addr → Nat → Fn Ct} (F : Fun G.K x qual st f fd) (S : FnScope N ps (defScope st)) (hnm : (defScope st).names = nm)
    (hbl : ∀ y ∈ bs, G.mg y = none) (hbody : ∀ (X : Cx) (a dd : Addr) (c : Nat), Ch pr G bs k X N nm a dd c → ZB X (defBody st) (body a dd c)) : FnHZ G (k + 1) f fd ps (spH pr G ps.length (fun a dd c => fDef ps.length N.length (body a dd c))) := by
  obtain ⟨oc, od, kV, doc, pm, an, cdv, ct, osl, rfl, lk, hcd⟩ := F.ex
  refine ⟨fun A outer s H args us vs Q p hgd hr hot hpin e0 hb r hsp => ?_⟩
  obtain ⟨hvl, AT, c, dd, T, h9, hpc, hcls, hdict, B, ds, st0, d, st1, rd, S0, hf, hQ⟩ := hsp
  have KX : G.K.In s.heap := e0.mod.kin.keeps fun b o e => (e0.bs b o e).1
  have lim : s.heap.NoLimit := e0.mod.nolimit.keeps fun b o e => (e0.bs b o e).1
  have hkind : ∀ y ∈ ps.zip us, (defScope st).names.lookup y.1 = some .local ∨ ((defScope st).names.lookup y.1 = some .cell ∧ ((cellsFrom (s.heap.objs.size + 1) (defScope st).names []).lookup y.1).isSome = true) := fun ⟨n, v⟩ hy => by
    rcases S.par n (List.of_mem_zip hy).1 with q | q
    · exact .inl q
    · exact .inr ⟨q, cellsFrom_some _ _ _ (.inl q)⟩
  refine codeAny_call_function hr.depth (KX _ _ lk) rfl S.co S.gen rfl (codeRec_of KX hcd) (hb _ _ _ _ ?_)
  refine wpAny_newFunctionEnv_cells S.kind hkind fun env he s1 x1 => ?_
  subst he
  refine ⟨lim.keeps x1.toInCall.keep, codeAny_func ?_⟩
  obtain ⟨hdl, hf⟩ := Rs.iff_ok hf
  have hdl : ds.length = ps.length := beq_iff_eq.mp hdl
  obtain ⟨ct2, s2, hbd, hf⟩ := Rs.bind_ok hf
  have I0 := L2H.inv_startH (CX := CX0) (E := E0) S hpin e0 hvl r x1
  have I : Inv (L2H.cxH CX0 G.prog G.w G.K G.mg G.base N qual (defScope st) f cdv A outer s H E0 p).nox [] (start N vs) H s1 := I0.wish _
  have ch : Ch pr G bs k (L2H.cxH CX0 G.prog G.w G.K G.mg G.base N qual (defScope st) f cdv A outer s H E0 p).nox N nm p.1 dd c :=
    ⟨rfl, S.nd, S.kind, hnm, rfl, hr.deeper _, hgd, hbl, rfl, rfl, rfl, rfl, rfl, h9, hpc, AT, p.2, T, List.mem_singleton.mpr rfl, hot, hcls, hdict⟩
  have hz := (hbody _ p.1 dd c ch).run [] s1 (start N vs) H { nx := fun _ H' => Q .non H', rt := Q } I ⟨B, _, st0, ct2, s2, start_rp (N := N) rd, S0, by rw [hdl]; exact hbd, ?_⟩
  · refine wpAny_mono hz (fun fl s' hs => ?_) fun _ _ z => False.elim z
    have fin : ∀ {σ' : L2.St} {H' : Hp} {v : V} {u : Value}, Inv (L2H.cxH CX0 G.prog G.w G.K G.mg G.base N qual (defScope st) f cdv A outer s H E0 p).nox [] σ' H' s' → RelV v u → Q v H' → CE outer G.prog G.w H s Q u s' :=
      fun {σ' H' v u} J rv q => ⟨v, H', J.os, J.bare, J.base, J.hok, rv, q⟩
    cases fl with
    | ret u => obtain ⟨v, σ', H', J, rv, q⟩ := hs; exact fin J rv q
    | next => obtain ⟨σ', H', J, q⟩ := hs; exact fin (v := V.non) (u := Value.none) J rfl q
    | brk => obtain ⟨_, _, _, q⟩ := hs; exact False.elim q
    | cont => obtain ⟨_, _, _, q⟩ := hs; exact False.elim q
  · cases ct2 with
    | next env => exact fun B' H' σ' x e S' _ => gc_ok S0 hf hQ B' H' .non x e S' .non
    | ret d' => exact fun B' H' v x e S' r => gc_ok S0 hf hQ B' H' v x e S' r
    | brk _ => cases hf
    | cont _ => cases hf
theorem fzh_mk {G : Gz} {bs : List Str} {k n : Nat} {x qual : Str} {st : Stmt} {f : Addr} {fd : FuncData} {N ps : List Str} {nm : List (Str × NameKind)} {body : Addr → Addr → Nat → Fn Ct} (F : Fun G.K x qual st f fd) (hm : G.mg x = some (.ref f)) (hb : Binds G.K fd ps []) (hn : ps.length = n) (S : FnScope N ps (defScope st)) (hnm : (defScope st).names = nm)
    (hbl : ∀ y ∈ bs, G.mg y = none) (hbody : ∀ (X : Cx) (a dd : Addr) (c : Nat), Ch pr G bs k X N nm a dd c → ZB X (defBody st) (body a dd c)) : FzH pr G (k + 1) x n (fun a dd c => fDef n N.length (body a dd c)) := by
  subst hn
  exact ⟨fun a dd c ds s d s' h => beq_iff_eq.mp (Rs.iff_ok h).1, f, fd, ps, hm, F.kp, hb, rfl, z_fnH F S hnm hbl hbody⟩
end Z

/-! # try: .. except .. as e: .. -/
namespace Z
open PySem PySem.Spec PyProof.Rows L2 PySem.W
variable {pr : Nat → Bool}

abbrev endsN (D : Ends) (i : Nat) : Ends := { nx := fun σ' H' => D.nx (σ'.set i none) H', rt := D.rt, bk := fun σ' H' => D.bk (σ'.set i none) H', ct := fun σ' H' => D.ct (σ'.set i none) H' }
/-- what 'except (C1, C2) as n' wishes of an error of the body -/
def wAs2 (K : PySem.W.Frag) (c1 c2 : Value) (i : Nat) (ts : Addr → Value → Option Addr → TS) (D : Ends) : WX := fun cls d σ H =>
  exmAny K cls [c1, c2] = some true ∧ ∀ a, H a = none → ts a cls d (endsN D i) (σ.set i (some (.ref a))) H
section
variable {X : Cx} {x1 x2 n : Str} {c1 c2 : Value} {i kk : Nat} {body suite : List Stmt} {b0 : Stmt} {p1 p2 tp pos pos' : Pos} {tb : WX → TS} {ts : Addr → Value → Option Addr → TS}
theorem fly_keep {B : Heap} {l : List Env} {a : Addr} {Z : Obj → Prop} {h h' : Heap} (f : HandSPX.FlyingZ B l a Z h) (k : ∀ b o, h.get? b = some o → h'.get? b = some o) : HandSPX.FlyingZ B l a Z h' := by
  obtain ⟨q1, q2, q3, oe, vs, T, oT, us, q4, q5, q6, q7, q8, q9, q10, q11, q12⟩ := f
  exact ⟨fun b o e => k b o (q1 b o e), q2, q3.of_keeps fun b o e _ => ⟨o, k b o e, rfl⟩, oe, vs, T, oT, us, k _ _ q4, q5, q6, q7, q8, q9, k _ _ q10, q11, q12⟩
theorem ps_try2 (hs : X.stack = X.env :: X.outer) (hf : X.env.frame = some X.env.locals) (hN : X.N.Nodup) (hi : X.N[i]? = some n) (hln : X.env.kindOf n = some .local)
    (g1 : Gl X x1) (d1 : (x1 == ("__debug__" : Str)) = false) (m1 : X.mg x1 = some c1) (g2 : Gl X x2) (d2 : (x2 == ("__debug__" : Str)) = false) (m2 : X.mg x2 = some c2)
    (hb : ∀ (W : WX) (pn : List (Addr × Obj)) (xe : Value → Shared → Prop), L2N.Takes (X.tr pn xe) W → PassesOwn (model X.prog X.w) X.A X.env xe → PSs (X.tr pn xe) body (tb W))
    (hsu : ∀ (a : Addr) (oe : Obj) (cls : Value) (d : Option Addr) (pn : List (Addr × Obj)), L2N.Zn cls d oe → (∃ vs, oe.data = .fields vs) → PSs (X.suite a ((a, oe) :: pn)) (b0 :: suite) (ts a cls d)) :
    PS X (.Try body [.ExceptHandler (some (.Tuple [.Name x1 p1, .Name x2 p2] kk tp)) (some n) (b0 :: suite) pos'] [] [] pos) (fun D σ H => tb (wAs2 X.K c1 c2 i ts D) D σ H) := by
  refine ⟨fun pins s σ H D I h => ?_⟩
  have ok := I.ok
  have hfr : X.A.frames = some (X.env :: X.outer) := by rw [ok.frames, hs]
  refine wpAny_Try_except ?_
  have bodyRun := fun xe tk po => (hb (wAs2 X.K c1 c2 i ts D) (X.pn ++ pins) xe tk po).run [] s σ H D (I.toTry _) h
  refine wpAny_mono (bodyRun (fun e s1 => wpAny (model X.prog X.w) X.A (noteFrame e X.env) (fun _ s2 => wpAny (model X.prog X.w) X.A (setFlight e none) (fun _ s3 => wpAny (model X.prog X.w) X.A
      (handleBy e X.env [.ExceptHandler (some (.Tuple [.Name x1 p1, .Name x2 p2] kk tp)) (some n) (b0 :: suite) pos']) (SP X pins D) X.xe s3) X.xe s2) X.xe s1) (fun u s' xx => ?_) PassesOwn.looking) (fun f s1 hsp => ?_) fun e s1 he => he
  · obtain ⟨a, B, sI, pins', σ', H', cls, d, rfl, J', nb, up, sky, na, os, ag, hb1, hyes⟩ := xx
    have J : Inv X pins σ' H' sI := J'.ofTry ok
    have sky' : Sky B (X.env :: X.outer) a (L2N.Zn cls d) X.env.locals s'.heap := by rw [← hs]; exact sky
    show wpAny (model X.prog X.w) X.A (noteFrame (.ref a) X.env) _ _ _
    refine L2N.Sky.land L2N.Zn.steady hfr hf sky' fun h3 fl3 up3 => ?_
    have J3 : Inv X pins σ' H' { s' with heap := h3 } := J.landed nb fl3.1 (up.trans up3) os ag
    obtain ⟨oe3, vs3, he3, hz3, hd3⟩ := fl3.there
    have nfr : a ∉ frs (X.env :: X.outer) := fun hm => by
      obtain ⟨_, o', e', hnf⟩ := fl3.2.2.1.mem hm
      rw [he3] at e'; cases e'
      exact hnf _ hd3
    have nL : a ≠ X.env.locals := fun z => nfr (List.mem_filterMap.mpr ⟨X.env, List.mem_cons_self, by rw [hf, z]⟩)
    have nF : a ∉ X.fs := fun hm => by
      obtain ⟨e, he, q⟩ := List.mem_filterMap.mp hm
      exact nfr (List.mem_filterMap.mpr ⟨e, List.mem_cons_of_mem _ he, q⟩)
    have S3 := J3.suite he3 hd3 na nL nF
    refine wpAny_handleBy_cons (codeAny_handlers_test ?_) (by intro q; cases q)
    have LT : Looks (model X.prog X.w) h3 (typeOf (.ref a)) cls := fun A Q E s k q => wpAny_typeOf_ref (k _ _ he3) (by rw [hz3.1]; exact q)
    refine wpAny_Tuple (wpAny_items_cons (ld_glob (X := X.suite a ((a, oe3) :: (X.pn ++ pins))) S3 g1 m1 ?_ d1))
    refine wpAny_items_cons (ld_glob (X := X.suite a ((a, oe3) :: (X.pn ++ pins))) S3 g2 m2 ?_ d2)
    refine wpAny_items_nil ⟨by show 2 ≤ sizeLine; decide, ?_⟩
    obtain ⟨h4, eh4⟩ : ∃ h4, h4 = h3.push { cls := .type "tuple", data := .seq [c1, c2].toArray } := ⟨_, rfl⟩
    have k4 : ∀ b o, h3.get? b = some o → h4.get? b = some o := fun b o z => by rw [eh4]; exact Heap.get?_push_of_some _ z
    have gt : h4.get? h3.objs.size = some { cls := .type "tuple", data := .seq [c1, c2].toArray } := by rw [eh4]; exact Heap.get?_push_size h3 rfl
    have LM : Looks (model X.prog X.w) h4 (excMatches (.ref a) (.ref h3.objs.size)) true := exm_tup2 (J3.kIn.keeps k4) (LT.keeps k4) gt hb1
    have fl4 := fly_keep fl3 k4
    have up4 : s'.heap.UpToSlots h4 := up3.trans (Heap.UpToSlots.of_keeps k4)
    show wpAny _ _ (excMatches (.ref a) (.ref h3.objs.size)) _ _ { s' with heap := h3.push { cls := .type "tuple", data := .seq [c1, c2].toArray } }
    rw [← eh4]
    refine LM.here ?_
    refine codeAny_handlers_suite_as (HandSPX.lands_againZ fl4 fun h5 fl5 up5 => ?_)
    have J5 : Inv X pins σ' H' { s' with heap := h5 } := J.landed nb fl5.1 ((up.trans up4).trans up5) os ag
    obtain ⟨oe5, vs5, he5, hz5, hd5⟩ := fl5.there
    have S5 := J5.suite he5 hd5 na nL nF
    refine store_ok (X := X.suite a ((a, oe5) :: (X.pn ++ pins))) (v := .ref a) S5 hN hi (.inl hln) rfl (fun s6 S6 => ?_) (.inr hln)
    have suiteRun := (hsu a oe5 cls d (X.pn ++ pins) hz5 ⟨_, hd5⟩).run [] s6 _ H' _ S6 (hyes a na)
    refine wpAny_mono suiteRun (fun f s7 hsp => ?_) (fun _ _ z => False.elim z)
    have fin : ∀ {σ7 : L2.St} {H7 : Hp} {Q : Shared → Prop}, Inv (X.suite a ((a, oe5) :: (X.pn ++ pins))) [] σ7 H7 s7 → (∀ s8, Inv X pins (σ7.set i none) H7 s8 → Q s8) →
        wpAny (model X.prog X.w) X.A (do bindName X.env n .none; unbindBehindTheSuite X.env n pos') (fun _ s8 => Q s8) X.xe s7 := fun S7 hq => gone_ok (S7.unsuite ok) hN hi hln hq
    cases f with
    | next =>
      obtain ⟨σ7, H7, S7, q7⟩ := hsp
      exact fin S7 fun s8 J8 => ⟨_, _, J8, q7⟩
    | brk =>
      obtain ⟨σ7, H7, S7, q7⟩ := hsp
      exact fin S7 fun s8 J8 => ⟨_, _, J8, q7⟩
    | cont =>
      obtain ⟨σ7, H7, S7, q7⟩ := hsp
      exact fin S7 fun s8 J8 => ⟨_, _, J8, q7⟩
    | ret u =>
      obtain ⟨v7, σ7, H7, S7, r7, q7⟩ := hsp
      exact fin S7 fun s8 J8 => ⟨_, _, _, J8, r7, q7⟩
  · cases f with
    | next => obtain ⟨σ', H', J', q⟩ := hsp; exact wpAny_execs_nil ⟨σ', H', J'.ofTry ok, q⟩
    | brk => obtain ⟨σ', H', J', q⟩ := hsp; exact ⟨σ', H', J'.ofTry ok, q⟩
    | cont => obtain ⟨σ', H', J', q⟩ := hsp; exact ⟨σ', H', J'.ofTry ok, q⟩
    | ret u => obtain ⟨v, σ', H', J', r, q⟩ := hsp; exact ⟨v, σ', H', J'.ofTry ok, r, q⟩
end

/-! ### by data -/
open Classical in
/-- the same, whatever the addresses -/
noncomputable def allX {α : Type} (F : Addr → Addr → Rs α) : Rs α := if h : ∃ r, ∀ a dd, F a dd = r then h.choose else .bad
theorem allX_eq {α : Type} {F : Addr → Addr → Rs α} {r : Rs α} (h : ∀ a dd, F a dd = r) : allX F = r := by
  have hx : ∃ r, ∀ a dd, F a dd = r := ⟨r, h⟩
  unfold allX
  rw [dif_pos hx]
  exact (hx.choose_spec 0 0).symm.trans (h 0 0)
theorem allX_ok {α : Type} {F : Addr → Addr → Rs α} {x : α} {s : Sto} (h : allX F = .ok x s) (a dd : Addr) : F a dd = .ok x s := by
  unfold allX at h
  split at h
  · rename_i hx
    rw [hx.choose_spec a dd, h]
  · cases h
def unC (i : Nat) : Ct → Ct
  | .next e => .next (e.set i none)
  | .ret d => .ret d
  | .brk e => .brk (e.set i none)
  | .cont e => .cont (e.set i none)
def unR (i : Nat) (r : Rs Ct) : Rs Ct := r.bind fun c s => .ok (unC i c) s
noncomputable def fTry (ct : Nat → Bool) (fb : Fn Ct) (i : Nat) (gs : Addr → Addr → Nat → Fn Ct) : Fn Ct := fun env s => match fb env s with
  | .ok c s1 => .ok c s1
  | .exc (.xn _ _ c fs) s1 => Rs.iff (decide (c < 9) && ct c) (allX fun a dd => unR i (gs a dd c (env.set i (some (.xn a dd c fs))) s1))
  | _ => .bad
section
variable {G : Gz} {bs : List Str} {k : Nat} {X : Cx} {N : List Str} {nm : List (Str × NameKind)} {n : Str} {i kk : Nat} {body suite : List Stmt} {b0 : Stmt} {p1 p2 tp pos pos' np : Pos} {fb : Fn Ct} {gs : Addr → Addr → Nat → Fn Ct} {x : Str}
/-- the suite's reading, from the error's class and dict -/
def tSu (pr : Nat → Bool) (G : Gz) (K : PySem.W.Frag) (A : Nat → Addr) (gs : Addr → Addr → Nat → Fn Ct) : Addr → Value → Option Addr → TS := fun a cls d D σ H => ∃ (c : Nat) (dd : Addr), c < 9 ∧ pr c = true ∧ cls = .ref (A c) ∧ d = some dd ∧ tOfS K (gs a dd c) D σ H
theorem ps_su (c : Cz G bs k X N nm (fun _ => true)) {A : Nat → Addr} (T : ErrsT G.K G.mg A pr) (hsu : ∀ (X' : Cx) (a dd : Addr) (cn : Nat), Ch pr G bs k X' N nm a dd cn → ZB X' (b0 :: suite) (gs a dd cn))
    (a : Addr) (oe : Obj) (cls : Value) (d : Option Addr) (pn : List (Addr × Obj)) (hz : L2N.Zn cls d oe) (hv : ∃ vs, oe.data = .fields vs) : PSs (X.suite a ((a, oe) :: pn)) (b0 :: suite) (tSu pr G X.K A gs a cls d) := by
  refine ⟨fun pins s σ H D I q => ?_⟩
  obtain ⟨cn, dd, h9, hpc, hc, hd, q⟩ := q
  obtain ⟨vs, hv⟩ := hv
  have ch : Ch pr G bs k (X.suite a ((a, oe) :: pn)) N nm a dd cn := ⟨c.hN, c.nd, c.kd, c.nm, c.ow, ⟨c.rm.dp, c.rm.un⟩, c.gd, c.bl, c.gp, c.gw, c.gK, c.gm, c.gb, h9, hpc, A, oe, T, List.mem_cons_self, ⟨rfl, vs, hv, hz.2.2 vs hv⟩, hz.1.trans hc, hz.2.1.trans hd⟩
  exact (hsu _ a dd cn ch).run pins s σ H D I q
theorem PostC.un {K : PySem.W.Frag} {B : Lo} {H : Hp} {s' : Sto} {D : Ends} {i : Nat} : ∀ {c : Ct}, PostC K B H s' D (unC i c) → PostC K B H s' (endsN D i) c
  | .next e, h => fun B' H' σ' x ee S r => h B' H' _ x ee S (r.unset i)
  | .ret d, h => h
  | .brk e, h => fun B' H' σ' x ee S r => h B' H' _ x ee S (r.unset i)
  | .cont e, h => fun B' H' σ' x ee S r => h B' H' _ x ee S (r.unset i)
end
/-- a def that may raise, where it does not -/
theorem fz_of_x {G : Gz} {k n : Nat} {x : Str} {φ : Phi} (F : FzX G k x n φ) : Fz G k x n φ := by
  obtain ⟨f, fd, ps, h1, h2, h3, h4, h5⟩ := F.ex
  refine ⟨fun ds s d s' h => F.len ds s (by rw [h]; exact fun z => nomatch z), f, fd, ps, h1, h2, h3, h4, ⟨fun A outer s H args us vs Q hg hr e0 hb r hsp => ?_⟩⟩
  obtain ⟨hl, B, ds, st, d, s', rd, S, hf, hQ⟩ := hsp
  refine codeAny_mono (h5.run A outer s H args us vs Q E0 hg hr e0 hb r ⟨hl, B, ds, st, rd, S, by rw [hf]; exact hQ⟩) fun res s2 hq => ?_
  cases res with
  | error e =>
    obtain ⟨_, _, _, _, _, _, _, _, _, _, _, _, z⟩ := hq
    exact z
  | ok fl => cases fl <;> exact hq
/-- a slice of what may raise: a tuple -/
def gSlS (x : Dv) (lo hi : Option Int) (s : Sto) : Rs Dv := match x with
  | .tup ds => .ok (.tup (cutD ds lo hi)) s
  | _ => .bad
section
variable {X : Cx} {W : WX} {e : Expr} {fa : Fn Dv} {pos p2 : Pos}
end
end Z

/-! # sum(xs, start=n); isinstance(x, (T1, T2)); range(a, b, -1); defs that call themselves -/
namespace Z
open PySem PySem.Spec PyProof.Rows L2

/-! ### sum(xs, start=n) -/
section
variable {prog : Program} {w : World} {A : Around} {E : Value → Shared → Prop} {s : Shared}
end
def gSumS (i : Dv) (x : Dv) (s : Sto) : Rs Dv := match i, (seqOf s x).bind intsOf with
  | .int i, some ns => Rs.iff (isL x s) (.ok (.int (i + ns.sum)) s)
  | _, _ => .bad
def fSumS (f g : Fn Dv) : Fn Dv := fun env s => (f env s).bind fun x s1 => (g env s1).bind fun i s2 => gSumS i x s2
section
variable {G : Gz} {bs : List Str} {k : Nat} {X : Cx} {N : List Str} {nm : List (Str × NameKind)} {ow : Str → Bool} {e e2 tg : Expr} {fa fb : Fn Dv} {fs : Fn (List Dv)} {pos p p2 kpos : Pos} {q : Bool}
/-! ### isinstance(x, (T1, T2)) -/
def isiAny (t : String) (Ts : List String) : Bool := Ts.any fun T => isiB t T
def fIsiT (Ts : List String) (f : Fn Dv) : Fn Dv := fun env s => (f env s).bind fun x s1 => Rs.iff (okX x) (.ok (.bl (isiAny (tyD x s1) Ts)) s1)
/-! ### range(a, b, -1) -/
def rngDn (lo : Int) (n : Nat) : List Dv := (List.range n).map fun (i : Nat) => Dv.int (lo - (i : Int))
def fRngD (f : Fn (List Dv)) : Fn Src := fun env s => (f env s).bind fun ds s1 => match ds with | [.int i, .int j, .int c] => Rs.iff (inRng i && inRng j && c == -1) (.ok (rngDn i (i - j).toNat, noChk) s1) | _ => .bad
end

/-! ### a def that calls itself -/
def recZ (n m : Nat) (body : Phi → Fn Ct) : Nat → Phi
  | 0 => fun _ _ => .bad
  | j + 1 => fDef n m (body (recZ n m body j))
/-- .. that may raise -/
def recX (n m : Nat) (body : Phi → Fn Ct) : Nat → Phi
  | 0 => fun _ _ => .bad
  | j + 1 => fDefX n m (body (recX n m body j))
theorem memF1 {α : Type} {P : α → Prop} {a : α} (h : P a) : ∀ f ∈ [a], P f := fun f hf => by rw [List.mem_singleton.mp hf]; exact h
theorem memF2 {α : Type} {P : α → Prop} {a b : α} (h : P a) (k : P b) : ∀ f ∈ [a, b], P f := fun f hf => by
  rcases List.mem_cons.mp hf with z | z
  · rw [z]; exact h
  · rw [List.mem_singleton.mp z]; exact k
theorem all12 {pr : Nat → Bool} {P : Nat → Prop} (h0 : pr 0 = true → P 0) (h1 : pr 1 = true → P 1) (h2 : pr 2 = true → P 2) (h3 : pr 3 = true → P 3) (h4 : pr 4 = true → P 4) (h5 : pr 5 = true → P 5) (h6 : pr 6 = true → P 6) (h7 : pr 7 = true → P 7) (h8 : pr 8 = true → P 8) (h9 : pr 9 = true → P 9) (h10 : pr 10 = true → P 10) (h11 : pr 11 = true → P 11) : ∀ i, Has pr i → P i
  | 0, h => h0 h.2 | 1, h => h1 h.2 | 2, h => h2 h.2 | 3, h => h3 h.2 | 4, h => h4 h.2 | 5, h => h5 h.2 | 6, h => h6 h.2 | 7, h => h7 h.2 | 8, h => h8 h.2 | 9, h => h9 h.2 | 10, h => h10 h.2 | 11, h => h11 h.2
  | i + 12, h => absurd h.1 (by omega)
theorem all9 {pr : Nat → Bool} {P : Nat → Prop} (h0 : pr 0 = true → P 0) (h1 : pr 1 = true → P 1) (h2 : pr 2 = true → P 2) (h3 : pr 3 = true → P 3) (h4 : pr 4 = true → P 4) (h5 : pr 5 = true → P 5) (h6 : pr 6 = true → P 6) (h7 : pr 7 = true → P 7) (h8 : pr 8 = true → P 8) : ∀ i, i < 9 → pr i = true → P i
  | 0, _, h => h0 h | 1, _, h => h1 h | 2, _, h => h2 h | 3, _, h => h3 h | 4, _, h => h4 h | 5, _, h => h5 h | 6, _, h => h6 h | 7, _, h => h7 h | 8, _, h => h8 h
  | i + 9, h, _ => absurd h (by omega)
theorem taker_of {K : PySem.W.Frag} {C : Addr} {f : Str} (h : PySem.W.findIn K (.ref C) f = some none) : PySem.W.takerIn K C f = some none := by
  unfold PySem.W.takerIn; rw [h]; rfl
theorem oexL {K : PySem.W.Frag} {C D N : Addr} {nm q : Str} {bs sub : List Value} {sn : List Str} {ab : Bool} {col : Option Bool} {dd : Option Addr} {k0 k1 k2 k3 k5 : Option Value}
    (l : K.lookup C = some (excClassObj nm q C N bs (.ref D :: leT) true sn sub ab col dd k0 k1 k2 k3 k5 "LookupError.__new__")) (sa : PySem.W.findIn K (.ref C) "__setattr__" = some (some (.builtin "object.__setattr__")))
    (ex : PySem.W.subIn K (.ref C) (.type "BaseException") = some true) (ty : PySem.W.typeIn K (.ref C) = some (.type "type")) (kp : PySem.W.keepIn K (.ref C) = true) : OexB K C "LookupError" "LookupError.__new__" "LookupError.__init__" leT :=
  ⟨PySem.F.excBase_LookupError, PySem.F.store_LookupError, ⟨nm, q, N, bs, _, sn, sub, ab, col, dd, k0, k1, k2, k3, k5, l, by show PySem.W.excTail leT leT = true; decide +kernel⟩, sa, ex, ty, kp⟩
end Z

namespace Z
open PySem PySem.Spec PyProof.Rows L2

/-! ### a, b, .. = a list -/
def gTpL (n : Nat) (h : List Dv → Fn En) : Dv → Fn En := fun d env s => match seqOf s d with
  | some ds => Rs.iff (isL d s && ds.length == n) (h ds env s)
  | none => .bad
section
variable {G : Gz} {bs : List Str} {k : Nat} {X : Cx} {N : List Str} {nm : List (Str × NameKind)} {ow : Str → Bool} {pos : Pos} {qb : Bool}
end
end Z

namespace Z
open PySem PySem.Spec PyProof.Rows L2

/-! ### data in a list of data -/
def gInD (x y : Dv) (s : Sto) : Rs Dv := match pyOf s x, pyOf s y with
  | some p, some (.list ps) => Rs.iff (SeqAt.shaped p && SeqAt.shaped (.list ps)) (.ok (.bl (ps.any fun z => PyData.eqv z p)) s)
  | _, _ => .bad
def gNotInD := gNot gInD
section
variable {G : Gz} {bs : List Str} {k : Nat} {X : Cx} {N : List Str} {nm : List (Str × NameKind)} {ow : Str → Bool} {a b c e : Expr} {fa fb fc : Fn Dv} {pos : Pos}
/-- a if t else b, where a and b may raise -/
def fIfX (t : Fn Bool) (f g : Fn Dv) : Fn Dv := fun env s => (t env s).sure.bind fun b s1 => if b = true then f env s1 else g env s1
end
end Z

namespace HT
open PySem PySem.Spec PyProof.Rows
section
variable {prog : Program} {w : World} {A : Around} {E : Value → Shared → Prop} {s : Shared}
end
end HT
namespace Z
open PySem PySem.Spec PyProof.Rows L2
/-! ### t[::-1] of a tuple -/
def tRevT (K : PySem.W.Frag) (te : TE) : TE := fun σ H Q => te σ H fun x H1 => ∃ a xs, x = .ref a ∧ SqT K H1 a xs ∧ ∀ p o, H1 p = none → o.dict = none → Q (.ref p) (upd H1 p (.frz o (.tup xs.reverse)))
section
variable {X : Cx}
end
def fRevT (f : Fn Dv) : Fn Dv := fun env s => (f env s).bind fun x s1 => match x with | .tup ds => .ok (.tup ds.reverse) s1 | _ => .bad
section
variable {X : Cx} {e : Expr} {fa : Fn Dv} {pos : Pos}
end
end Z

namespace Z
open PySem PySem.Spec PyProof.Rows L2

/-! ### a def of no parameters is called -/
section
variable {G : Gz} {bs : List Str} {k : Nat} {X : Cx} {N : List Str} {nm : List (Str × NameKind)} {ow : Str → Bool} {x : Str} {p pos : Pos} {φ : Phi}
end
end Z

namespace Z
open PySem PySem.Spec PyProof.Rows L2

/-! ### len(set(xs)), xs texts -/
def dstS (σ : List Str) (v : Str) : List Str := if σ.any (· == v) = true then σ else σ ++ [v]
/-- the unlike ones, in the order met -/
def dst (xs : List Str) : List Str := xs.foldl dstS []
section
variable {P : Program} {W : World} {C : Around} {Rr : Result → Shared → Prop} {J S : Addr} {fp wr : List Addr} {GG : Array GenState → Array GenState → Prop} {Pv : Nat → Value → Prop} {St : Nat → Shared → Prop} {xs : List Str}
end
end Z

namespace Z
open PySem PySem.Spec PyProof.Rows L2

/-! ### len(set(x)), x a list or tuple of texts -/
def strs? : List Dv → Option (List Str)
  | [] => some []
  | .str z :: r => (strs? r).map (z :: ·)
  | _ => none
def fLenSet (f : Fn Dv) : Fn Dv := fun env s => (f env s).bind fun x s1 => match (seqOf s1 x).bind strs? with
  | some zs => Rs.iff (decide (zs.length ≤ 4000)) (.ok (.int (dst zs).length) s1)
  | none => .bad
/-! ### str(int) -/
def gStr (xs : List Dv) (s : Sto) : Rs Dv := match xs with
  | [.int i] => Rs.iff (decide (i.natAbs.log2 < 1920)) (.ok (.str (toString i)) s)
  | _ => .bad
section
variable {G : Gz} {bs : List Str} {k : Nat} {X : Cx} {N : List Str} {nm : List (Str × NameKind)} {ow : Str → Bool} {e a : Expr} {fs : Fn (List Dv)} {fa : Fn Dv} {p pos apos : Pos}
/-! ### x.upper() -/
def gUpper (x : Dv) (s : Sto) : Rs Dv := match x with
  | .str z => Rs.iff (decide (z.length ≤ 5592405)) (.ok (.str (Txt.upper z)) s)
  | _ => .bad
/-! ### [..] * n, n written -/
def fTimesL (f : Fn (List Dv)) (n : Nat) : Fn (List Dv) := fun env s => (f env s).bind fun ds s1 => Rs.iff (decide (ds.length * n ≤ 16777216) && decide (n ≤ 1000)) (.ok (List.replicate n ds).flatten s1)
end
end Z

namespace Z
open PySem PySem.Spec PyProof.Rows L2

/-! ### truths beside ints: +, -, str -/
def b2n (b : Bool) : Int := if b = true then 1 else 0
def rBI (f : Int → Int → Int) : R2 := fun x y H Q => ∃ b j, x = .bl b ∧ y = .int j ∧ Q (.int (f (b2n b) j)) H
section
variable {X : Cx}
end
def gBI (f : Int → Int → Int) (g : Dv → Dv → Sto → Rs Dv) : Dv → Dv → Sto → Rs Dv := fun x y s => match x, y with
  | .bl b, .int j => .ok (.int (f (b2n b) j)) s
  | x, y => g x y s
abbrev gAddB := gBI (fun i j => i + j) gAdd
abbrev gSubB := gBI (fun i j => i - j) gSub
def gStrB (xs : List Dv) (s : Sto) : Rs Dv := match xs with
  | [.bl b] => .ok (.str (if b = true then Str.ofString "True" else Str.ofString "False")) s
  | [.int i] => Rs.iff (decide (i.natAbs.log2 < 1920)) (.ok (.str (toString i)) s)
  | _ => .bad
def rStrB : List V → Hp → VK → Prop := fun xs H Q => (∃ b : Bool, xs = [.bl b] ∧ Q (.str (if b = true then Str.ofString "True" else Str.ofString "False")) H) ∨ ∃ i : Int, xs = [.int i] ∧ i.natAbs.log2 < 1920 ∧ Q (.str (toString i)) H
section
variable {G : Gz} {bs : List Str} {k : Nat} {X : Cx} {N : List Str} {nm : List (Str × NameKind)} {ow : Str → Bool} {e a b : Expr} {fs : Fn (List Dv)} {fa fb : Fn Dv} {p pos apos : Pos}
end
end Z

namespace Z
open PySem PySem.Spec PyProof.Rows L2

/-! ### [d[n] for n in d if ..], d a dict -/
def dvV (ks0 : List (Key × V)) (T : Key → Bool) : List (Key × V) → Option (List V)
  | [] => some []
  | p :: r => if T p.1 = true then (match valV ks0 p.1, dvV ks0 T r with | some v, some vs => some (v :: vs) | _, _ => none) else dvV ks0 T r
def tDv (jd jn : Nat) (tt : TT) : TE := tLockE (tLc (iKeys (tVar jd)) (gName jn) tt (tDGet (tVar jd) (tVar jn)) [jn])
/-! ### .. as a reading -/
def dvD (kvs0 : List (Key × Dv)) (T : Key → Bool) : List (Key × Dv) → Option (List Dv)
  | [] => some []
  | p :: r => if T p.1 = true then (match lookK kvs0 p.1, dvD kvs0 T r with | some v, some vs => some (v :: vs) | _, _ => none) else dvD kvs0 T r
def dvT (ob : Option Nat) (env : En) : Option (Key → Bool) := match ob with
  | none => some fun _ => true
  | some j => match env[j]? with
    | some (some (.str b)) => some fun k => match k with | .inr z => !(z == b) | .inl _ => true
    | _ => none
def fDV (jd jn : Nat) (ob : Option Nat) : Fn (List Dv) := fun env s => match env[jd]? with
  | some (some (.loc n)) => match s[n]?, dvT ob env with
    | some (.dk kvs), some T => if jn < env.length ∧ kvs.length < 16777216 then (match dvD kvs T kvs with | some ds => .ok ds s | none => .bad) else .bad
    | _, _ => .bad
  | _ => .bad
section
variable {G : Gz} {bs : List Str} {k : Nat} {X : Cx} {N : List Str} {nm : List (Str × NameKind)} {ow : Str → Bool} {d n b : Str} {jd jn jb : Nat} {p1 p2 p3 p4 p5 p6 p7 p8 pos : Pos} {scope : Scope}
end
end Z

/-! # sorted(xs, key=f): whatever f's calls do to what is tracked -/
namespace Z
open PySem PySem.Spec PyProof.Rows L2 PySem.Calls PySem.W
section
variable {prog : Program} {w : World} {A : Around} {E : Value → Shared → Prop} {s : Shared}
/-- a heap without the object at a -/
theorem heap_less (h : Heap) (a : Addr) : ∃ g : Heap, g.get? a = none ∧ (∀ b o, b ≠ a → h.get? b = some o → g.get? b = some o) ∧ ∀ b o, g.get? b = some o → h.get? b = some o := by
  obtain ⟨g, g1, g2⟩ := restrict h fun b => decide (b ≠ a)
  have up : ∀ b o, g.get? b = some o → h.get? b = some o := fun b o e => by
    by_cases hb : b = a
    · rw [g2 b (by simp [hb])] at e; cases e
    · rw [g1 b (decide_eq_true hb)] at e; exact e
  exact ⟨g, g2 a (by simp), fun b o hb e => by rw [g1 b (decide_eq_true hb)]; exact e, up⟩
/-- what is made of the keys that have been called for -/
structure KeyJ (prog : Program) (w : World) (A : Around) (f : Value) (vs : List Value) (a kS : Addr) (e1 : Nat) (J : Nat → List Value → Shared → Prop) : Prop where
  turn : ∀ (j : Nat) (x : Value) (t : Shared) (ks : List Value) (m : Nat), vs[j]? = some x → J j ks t → t.heap.get? kS = some (seqObj "list" ks.toArray m) → t.heap.get? a = some (seqObj "list" #[] e1) →
    wpAny (model prog w) A (call f [x]) (fun v t' => t'.heap.get? kS = some (seqObj "list" ks.toArray m) ∧ t'.heap.get? a = some (seqObj "list" #[] e1) ∧
      ∀ g, (∀ b o, b ≠ kS → t'.heap.get? b = some o → g.get? b = some o) → J (j + 1) (ks ++ [v]) { t' with heap := g }) (fun _ _ => False) t
theorem keyJ_rest {f : Value} {a kS : Addr} {b : Bool} {vs : List Value} {e1 : Nat} {P : PySem.Fin → Shared → Prop} {J : Nat → List Value → Shared → Prop} (KJ : KeyJ prog w A f vs a kS e1 J) (nk : s.heap.get? kS = some (seqObj "list" #[] 0)) (na : s.heap.get? a = some (seqObj "list" #[] e1)) (hka : kS ≠ a)
    (hZ : vs.length ≤ sizeLine) (j0 : J 0 [] s)
    (fin : ∀ (t : Shared) (ks : List Value), J vs.length ks t → ks.length = vs.length → ∃ kz : List PyData, EachIs (fun v k => ∃ as, Reads t.heap v k as) ks kz ∧ AllAlike kz ∧ Sortable kz ∧ (∀ d, d ∈ kz → A.units + d.depth < cLine) ∧
      ∀ g tk out c, (∀ b o, b ≠ a → b ≠ kS → t.heap.get? b = some o → g.get? b = some o) → g.get? a = some (seqObj "list" (List.toArray out) c) → KeyedOut b kz vs out → P (.done (.ret .none)) { t with heap := g, toks := tk }) :
    wpAny (model prog w) A (ksk_rest a f b vs.toArray e1 (.ref kS)) P E s := by
  unfold ksk_rest
  refine wpAny_bind (wpAny_rule ?_)
  first
    | rw [List.forIn_toArray]
    | (rw [← Array.forIn_toList]; simp only [List.toList_toArray])
    | rw [← Array.forIn_toList]
  refine wpAny_bind (ksk_fold (fun i t => ∃ (ks : List Value) (m : Nat), ks.length = i ∧ J i ks t ∧ t.heap.get? kS = some (seqObj "list" ks.toArray m) ∧ t.heap.get? a = some (seqObj "list" #[] e1)) vs 0 s ⟨[], 0, rfl, j0, nk, na⟩ ?one ?all)
  case one =>
    rintro j x t hx ⟨ks, m, hl, hj, n1, n2⟩
    rw [Nat.zero_add] at hl hj ⊢
    have hjl : j < vs.length := (List.getElem?_eq_some_iff.mp hx).1
    refine wpAny_bind (wpAny_attempt (wpAny_mono (KJ.turn j x t ks m hx hj n1 n2) (fun v t' he => ?_) fun _ _ z => z.elim))
    obtain ⟨k1, k2, k3⟩ := he
    try dsimp only
    have same := Heap.SameBut.update t'.heap kS (Obj.mapSeq (·.push v))
    obtain ⟨m2, hm2⟩ : ∃ m2, (t'.heap.update kS (Obj.mapSeq (·.push v))).get? kS = some (seqObj "list" (ks.toArray.push v) m2) := ⟨_, get?_update_seq k1 (·.push v)⟩
    have hs0 : ks.toArray.size ≤ sizeLine := by rw [List.size_toArray, hl]; omega
    have hs1 : (ks.toArray.push v).size ≤ sizeLine + 1 := by rw [Array.size_push, List.size_toArray, hl]; omega
    refine wpAny_bind (listUpdate_at k1 rfl ?_ hs0 hs1)
    refine wpAny_pure ⟨rfl, ks ++ [v], m2, by rw [List.length_append, hl]; rfl, k3 _ fun b o hb e => (same.2 b hb).trans e, ?_, (same.2 a hka.symm).trans k2⟩
    have ea : (ks ++ [v]).toArray = ks.toArray.push v := by simp
    rw [ea]; exact hm2
  case all =>
    rintro t ⟨ks, m, hl, hj, n1, n2⟩
    rw [Nat.zero_add] at hl hj
    obtain ⟨kz, r1, r2, r3, r4, r5⟩ := fin t ks hj hl
    obtain ⟨g, g0, g1, g2⟩ := heap_less t.heap kS
    try dsimp only
    refine wpAny_bind (listItems_at n1 rfl ?_)
    have h2 : EachIs (fun v k => ∃ as, Reads t.heap v k as) ks.toArray.toList kz := by simpa using r1
    refine keyH_end (κ := dataKind t.heap kz) (h₁ := g) (fun b o _ e => g2 b o e) g0 n1 n2 hka (SortsAt.data (s := t) h2 r2 r3 r4) (by rw [List.size_toArray]; exact hl) hZ fun h3 tk3 c k3 n3 => ?_
    refine r5 h3 tk3 _ c (fun b o hb hk e => k3 b o hb (g1 b o hk e)) n3 ⟨t.heap, ks, r2, ?_, r1⟩
    simp
theorem keyJ_tree {f : Value} {a : Addr} {b : Bool} {vs : List Value} {n : Nat} {P : PySem.Fin → Shared → Prop} (ho : s.heap.get? a = some (seqObj "list" vs.toArray n)) (hZ : vs.length ≤ sizeLine)
    (go : ∀ (g : Heap) (e1 : Nat) (kS : Addr), s.heap.objs.size ≤ kS → g.get? kS = some (seqObj "list" #[] 0) → g.get? a = some (seqObj "list" #[] e1) → (∀ b o, b ≠ a → s.heap.get? b = some o → g.get? b = some o) →
      ∃ J : Nat → List Value → Shared → Prop, KeyJ prog w A f vs a kS e1 J ∧ J 0 [] { s with heap := g } ∧
        ∀ (t : Shared) (ks : List Value), J vs.length ks t → ks.length = vs.length → ∃ kz : List PyData, EachIs (fun v k => ∃ as, Reads t.heap v k as) ks kz ∧ AllAlike kz ∧ Sortable kz ∧ (∀ d, d ∈ kz → A.units + d.depth < cLine) ∧
          ∀ g tk out c, (∀ b o, b ≠ a → b ≠ kS → t.heap.get? b = some o → g.get? b = some o) → g.get? a = some (seqObj "list" (List.toArray out) c) → KeyedOut b kz vs out → P (.done (.ret .none)) { t with heap := g, toks := tk }) :
    wpAny (model prog w) A (ksk_tree a f b) P E s := by
  have hlt : a < s.heap.objs.size := Heap.lt_size ho
  obtain ⟨e1, ho1⟩ : ∃ e1, (s.heap.update a (Obj.mapSeq fun _ => (#[] : Array Value))).get? a = some (seqObj "list" #[] e1) := ⟨_, get?_update_seq ho fun _ => #[]⟩
  have hz1 : vs.toArray.size ≤ sizeLine := by rw [List.size_toArray]; exact hZ
  have ex : ((s.heap.update a (Obj.mapSeq fun _ => (#[] : Array Value))).push (seqObj "tuple" vs.toArray 0)).objs.size = s.heap.objs.size + 1 := by rw [size_push', Heap.size_update]
  obtain ⟨J, KJ, j0, fin⟩ := go (((s.heap.update a (Obj.mapSeq fun _ => (#[] : Array Value))).push (seqObj "tuple" vs.toArray 0)).push (seqObj "list" #[] 0)) e1 ((s.heap.update a (Obj.mapSeq fun _ => (#[] : Array Value))).push (seqObj "tuple" vs.toArray 0)).objs.size
    (by rw [ex]; exact Nat.le_succ _) (Heap.get?_push_size _ rfl) (Heap.get?_push_of_some _ (Heap.get?_push_of_some _ ho1)) fun b o hb q => Heap.get?_push_of_some _ (Heap.get?_push_of_some _ ((Heap.get?_update_ne _ _ _ _ hb).trans q))
  unfold ksk_tree
  refine wpAny_bind (listItems_at ho rfl ?_)
  refine wpAny_bind (listUpdate_at ho rfl ?_ hz1 (Nat.zero_le _))
  refine wpAny_bind (seqEpoch_at ho1 rfl ?_)
  refine wpAny_bind (wpAny_newTuple ?_ (by show vs.length ≤ _; exact hZ))
  refine wpAny_bind (wpAny_newList ?_ (Nat.zero_le _))
  refine wpAny_holding ?_
  exact keyJ_rest KJ (Heap.get?_push_size _ rfl) (Heap.get?_push_of_some _ (Heap.get?_push_of_some _ ho1)) (by rw [ex]; exact Nat.ne_of_gt (Nat.lt_succ_of_lt hlt)) hZ j0 fin
end
end Z

/-! # lambdas of one parameter -/
namespace Z
open PySem PySem.Spec PyProof.Rows L2

/-! ### a lambda is made -/
/-- the def whose frame runs, its code object at c, its table at P -/
structure Lz (G : Gz) (X : Cx) (x : Str) (c P : Addr) : Prop where
  q : X.env.qual = x ++ (".<locals>." : Str)
  cd : X.env.code = .ref c
  ti : PySem.W.tabIn G.K x = some (c, P)
  tb : LamX.TabB G.base G.mg c P
  mem : x ∈ tabN
  inj : ∀ y ∈ tabN, ∀ c', PySem.W.tabIn G.K y = some (c', P) → lamQ y = lamQ x
def allT (K : PySem.W.Frag) : List (Addr × Str) := tabN.filterMap fun x => (PySem.W.tabIn K x).map fun p => (p.2, lamQ x)
theorem allT_mem {K : PySem.W.Frag} {p : Addr × Str} (h : p ∈ allT K) : ∃ x ∈ tabN, ∃ c, PySem.W.tabIn K x = some (c, p.1) ∧ p.2 = lamQ x := by
  unfold allT at h
  obtain ⟨x, hx, e⟩ := List.mem_filterMap.mp h
  cases e2 : PySem.W.tabIn K x with
  | none => rw [e2] at e; cases e
  | some r =>
    rw [e2] at e
    have e3 : (r.2, lamQ x) = p := Option.some.inj e
    subst e3
    exact ⟨x, hx, r.1, e2, rfl⟩
theorem mem_allT {K : PySem.W.Frag} {x : Str} {c P : Addr} (hx : x ∈ tabN) (e : PySem.W.tabIn K x = some (c, P)) : (P, lamQ x) ∈ allT K :=
  List.mem_filterMap.mpr ⟨x, hx, by rw [e]; rfl⟩
theorem mutH_ne {u : HO} (h : MutH (some u)) : (∀ ps, u ≠ .tbl ps) ∧ ∀ c q, u ≠ LamX.CodeO c q := by
  refine ⟨fun ps z => by rw [z] at h; exact h, fun c q z => by
    unfold LamX.CodeO at z
    rw [z] at h; exact h⟩
section
variable {K : PySem.W.Frag} {B : Lo} {H H1 : Hp} {st : Sto}
theorem Sim.tabsAll (S : Sim K B H st) : LamX.Tabs (allT K) H := fun p hp => by
  obtain ⟨x, hx, c, e, e2⟩ := allT_mem hp
  obtain ⟨ps, h1, h2, h3⟩ := S.tabs x hx c p.1 e
  rw [e2]
  exact ⟨ps, h1, h2, fun pos cv hc => by
    obtain ⟨c', a1, a2, _⟩ := h3 pos cv hc
    exact ⟨c', a1, a2⟩⟩
/-- no code object among what changes -/
theorem Sim.noCode (S : Sim K B H st) {c : Addr} {q : Str} (e : LamX.ExtN H H1) (h : H1 c = some (LamX.CodeO c q)) : c ∉ B.locs ∧ c ∉ B.hid := by
  refine ⟨fun z => ?_, fun z => ?_⟩
  · obtain ⟨u, hu, hm⟩ := S.mem z
    rw [e c u hu (mutH_ne hm).1] at h
    exact (mutH_ne hm).2 c q (Option.some.inj h)
  · obtain ⟨_, u, hu, hm⟩ := S.hid c z
    rw [e c u hu (mutH_ne hm).1] at h
    exact (mutH_ne hm).2 c q (Option.some.inj h)
theorem Mo.extN (e : LamX.ExtN H H1) (t : ∀ b ps, H b = some (.tbl ps) → ∃ ps', H1 b = some (.tbl ps')) : Mo B H B H1 :=
  ⟨List.prefix_refl _, fun b o h _ _ n => e b o h n, fun b xs h => e b _ h (fun _ z => by cases z), fun b o u h => e b _ h (fun _ z => by cases z), fun _ z => z.elim .inl fun z => .inr (.inl z), t⟩
theorem Sim.extN (S : Sim K B H st) (e : LamX.ExtN H H1) (t : ∀ b ps, H b = some (.tbl ps) → ∃ ps', H1 b = some (.tbl ps')) (T : LamX.Tabs (allT K) H1) : Sim K B H1 st := by
  have m := Mo.extN (B := B) e t
  refine ⟨S.nd, S.len, fun n a o e1 e2 => ?_, fun b hb => ?_, fun x hx c P et => ?_⟩
  · obtain ⟨u, hu, hm⟩ := (S.obs n a o e1 e2).there
    exact (S.obs n a o e1 e2).mono m ((e a u hu (mutH_ne hm).1).trans hu.symm)
  · obtain ⟨h1, u, hu, hm⟩ := S.hid b hb
    exact ⟨h1, u, e b u hu (mutH_ne hm).1, hm⟩
  · obtain ⟨ps, h1, h2, h3⟩ := T _ (mem_allT hx et)
    refine ⟨ps, h1, h2, fun pos cv hc => ?_⟩
    obtain ⟨c', a1, a2⟩ := h3 pos cv hc
    exact ⟨c', a1, a2, S.noCode e a2⟩
theorem Ext.extN (S : Sim K B H st) (e : LamX.ExtN H H1) (t : ∀ b ps, H b = some (.tbl ps) → ∃ ps', H1 b = some (.tbl ps')) : Ext B H B H1 :=
  ⟨Mo.extN e t, fun b o h hb => by
    obtain ⟨_, u, hu, hm⟩ := S.hid b hb
    rw [h] at hu; cases hu
    exact e b _ h (mutH_ne hm).1, fun _ h => h, fun _ h => .inl h⟩
end
section
variable {G : Gz} {bs : List Str} {k : Nat} {X : Cx} {N : List Str} {nm : List (Str × NameKind)} {ow : Str → Bool} {x : Str} {c P : Addr}
/-- the lambda's object -/
abbrev lamO (X : Cx) (params : Arguments) (body : Expr) (scope : Scope) (pm : Value) (c' : Addr) (ctv : Value) : Obj :=
  PySem.W.kla_obj "<lambda>" (X.env.qual ++ "<lambda>") params body scope (cloFrom X.env.cells scope.names []) pm c' ctv
/-- what the making does to what is tracked -/
def MadeAt (P c' : Addr) (q : Str) (H H1 : Hp) : Prop := H1 = H ∨ ∃ ps more : Array Value, H P = some (.tbl ps) ∧ H c' = none ∧ H1 = upd (upd H P (.tbl (ps ++ more))) c' (LamX.CodeO c' q)
theorem MadeAt.extN {P c' : Addr} {q : Str} {H H1 : Hp} (h : MadeAt P c' q H H1) : LamX.ExtN H H1 := by
  rcases h with rfl | ⟨ps, more, h1, h2, rfl⟩
  · exact LamX.ExtN.refl _
  · intro b o e n
    rw [upd_ne (ne_of_none e h2), upd_ne (fun z : b = P => by
      rw [z, h1] at e
      exact n ps (Option.some.inj e).symm)]
    exact e
theorem MadeAt.tbls {P c' : Addr} {q : Str} {H H1 : Hp} (h : MadeAt P c' q H H1) : ∀ b ps, H b = some (.tbl ps) → ∃ ps', H1 b = some (.tbl ps') := by
  rcases h with rfl | ⟨ps, more, h1, h2, rfl⟩
  · exact fun b ps e => ⟨ps, e⟩
  · intro b qs e
    rw [upd_ne (ne_of_none e h2)]
    by_cases hb : b = P
    · exact ⟨_, by rw [hb]; exact upd_same⟩
    · exact ⟨qs, by rw [upd_ne hb]; exact e⟩
theorem MadeAt.tabs {T : List (Addr × Str)} {P c' : Addr} {q : Str} {H H1 : Hp} (h : MadeAt P c' q H H1) (hT : LamX.Tabs T H) (hne : ∀ p ∈ T, p.1 ≠ P) : LamX.Tabs T H1 := by
  rcases h with rfl | ⟨ps, more, h1, h2, rfl⟩
  · exact hT
  · intro p hp
    obtain ⟨qs, a1, a2, a3⟩ := hT p hp
    have e := MadeAt.extN (P := P) (c' := c') (q := q) (H := H) (.inr ⟨ps, more, h1, h2, rfl⟩)
    refine ⟨qs, by rw [upd_ne (ne_of_none a1 h2), upd_ne (hne p hp)]; exact a1, a2, fun pos cv hc => ?_⟩
    obtain ⟨c0, b1, b2⟩ := a3 pos cv hc
    exact ⟨c0, b1, e _ _ b2 LamX.codeO_ne⟩
/-- a lambda is made; T: the tables, that at P among them -/
theorem lam_make0 {pins : List (Addr × Obj)} {σ : L2.St} {H : Hp} {s : Shared} {T : List (Addr × Str)} {params : Arguments} {body : Expr} {scope : Scope} {pos : Pos} {E Q : Value → Shared → Prop} (I : Inv X pins σ H s) (TB : LamX.TabB X.base X.mg c P) (hcode : X.env.code = .ref c)
    (hm : (P, X.env.qual ++ "<lambda>") ∈ T) (hu : ∀ p ∈ T, p.1 = P → p.2 = X.env.qual ++ "<lambda>") (hT : LamX.Tabs T H) (hdef : defaultsOf params X.env = ([], [])) (hfree : ∀ y ∈ scope.names, y.2 = .free → ∃ c, X.env.cells.lookup y.1 = some c)
    (h : ∀ (f c' : Addr) (pm ctv : Value) (H1 : Hp) (s' : Shared), Inv X pins σ H1 s' → MadeAt P c' (X.env.qual ++ "<lambda>") H H1 → LamX.Tabs T H1 → s'.heap.get? f = some (lamO X params body scope pm c' ctv) → H1 f = none → f ∉ frs X.stack →
      H1 c' = some (LamX.CodeO c' (X.env.qual ++ "<lambda>")) → Q (.ref f) s') :
    wpAny (model X.prog X.w) X.A (eval (.Lambda params body scope pos) X.env) Q E s := by
  obtain ⟨ps, tP, tO, tC⟩ := hT _ hm
  have atP : s.heap.get? P = some (PySem.W.tabObj ps) := I.hok P _ tP
  have bltP : s.heap.BuiltinsAt X.mg P := TB.bm.keeps I.bk
  have cl := closure_ok hfree
  have glb := I.mod.glob.keeps I.bk
  have hd := TB.code.keeps I.bk
  have offStack : ∀ f, s.heap.objs.size ≤ f → f ∉ frs X.stack := fun f hf z => by
    rcases List.mem_cons.mp (I.stkSub _ z) with e | e
    · have lt := I.lt
      rw [← e] at lt
      exact Nat.lt_irrefl _ (Nat.lt_of_lt_of_le lt hf)
    · exact I.nofs hf e
  refine PySem.W.kla_eval hdef ?_
  cases hc : codeAmong pos ps.toList with
  | some cv =>
    obtain ⟨c', rfl, hco⟩ := tC pos cv hc
    refine PySem.W.kla_makeFunctionHit cl I.ok.glob glb hcode hd atP tO hc bltP fun ctv g tk up sz => ?_
    have J : Inv X pins σ H { s with heap := g.push (lamO X params body scope ((X.mg "__name__").getD .none) c' ctv), toks := tk } := I.kept fun b o e => Heap.get?_push_of_some _ (up b o e)
    exact h g.objs.size c' _ ctv H _ J (.inl rfl) hT (Heap.get?_push_size _ rfl) (I.hok.fresh sz) (offStack _ sz) hco
  | none =>
    refine PySem.W.kla_makeFunction cl I.ok.glob glb hcode hd atP tO hc TB.gP bltP fun c' ctv g tk up ge lt rec_ tb => ?_
    obtain ⟨c2, oc, vs, t, e2, ho, hdat, hnm⟩ := rec_
    cases e2
    have newC : H c' = none := I.hok.fresh ge
    have sz : s.heap.objs.size ≤ g.objs.size := by omega
    have J := LamX.inv_table (t' := tk) (q := X.env.qual ++ "<lambda>") (more := #[rawInt pos.line, rawInt pos.col, .ref c']) (h' := g.push (lamO X params body scope ((X.mg "__name__").getD .none) c' ctv)) I tP
      (fun b o hb e => Heap.get?_push_of_some _ (up b o hb e)) (Heap.get?_push_of_some _ tb) ge ⟨oc, vs, t, Heap.get?_push_of_some _ ho, hdat, hnm⟩
    have M : MadeAt P c' (X.env.qual ++ "<lambda>") H (upd (upd H P (.tbl (ps ++ #[rawInt pos.line, rawInt pos.col, .ref c']))) c' (LamX.CodeO c' (X.env.qual ++ "<lambda>"))) := .inr ⟨ps, _, tP, newC, rfl⟩
    have aList : (ps ++ #[rawInt pos.line, rawInt pos.col, .ref c']).toList = ps.toList ++ [rawInt pos.line, rawInt pos.col, .ref c'] := by simp
    refine h g.objs.size c' _ ctv _ _ J M (fun p hp => ?_) (Heap.get?_push_size _ rfl) ?_ (offStack _ sz) upd_same
    · by_cases hb : p.1 = P
      · refine ⟨_, by rw [hb, upd_ne (ne_of_none tP newC)]; exact upd_same, by rw [aList]; exact PySem.TriplesOk_snoc _ _ _ _ tO, fun p' cv z => ?_⟩
        rw [aList] at z
        rw [hu p hp hb]
        rcases LamX.among_app _ tO z with z | z
        · obtain ⟨c0, y1, y2⟩ := tC p' cv z
          exact ⟨c0, y1, M.extN _ _ y2 LamX.codeO_ne⟩
        · exact ⟨c', z, upd_same⟩
      · exact M.tabs (T := [p]) (fun p' hp' => by rw [List.mem_singleton.mp hp']; exact hT p hp) (fun p' hp' => by rw [List.mem_singleton.mp hp']; exact hb) p (List.mem_singleton.mpr rfl)
    · have ltP := Heap.lt_size atP
      rw [upd_ne (Nat.ne_of_gt lt), upd_ne (Nat.ne_of_gt (Nat.lt_of_lt_of_le ltP sz))]
      exact I.hok.fresh sz
theorem lam_made (cz : Cz G bs k X N nm ow) (L : Lz G X x c P) {params : Arguments} {body : Expr} {scope : Scope} {pos : Pos} {pins : List (Addr × Obj)} {σ : L2.St} {H : Hp} {s : Shared} {B : Lo} {st : Sto} {E Q : Value → Shared → Prop} (I : Inv X pins σ H s) (S : Sim X.K B H st)
    (hdef : defaultsOf params X.env = ([], [])) (hfree : ∀ y ∈ scope.names, y.2 = .free → ∃ c, X.env.cells.lookup y.1 = some c)
    (h : ∀ (f c' : Addr) (pm ctv : Value) (H1 : Hp) (s' : Shared), Inv X ((f, lamO X params body scope pm c' ctv) :: pins) σ H1 s' → Ext B H B H1 → Sim X.K B H1 st → H1 c' = some (LamX.CodeO c' (X.env.qual ++ "<lambda>")) → c' ∉ B.locs → c' ∉ B.hid → Q (.ref f) s') :
    wpAny (model X.prog X.w) X.A (eval (.Lambda params body scope pos) X.env) Q E s := by
  have eq : X.env.qual ++ ("<lambda>" : Str) = lamQ x := by rw [L.q]; rfl
  have ti : PySem.W.tabIn X.K x = some (c, P) := by rw [cz.gK]; exact L.ti
  refine lam_make0 (T := allT X.K) (c := c) (P := P) I (by rw [cz.gb, cz.gm]; exact L.tb) L.cd (by rw [eq]; exact mem_allT L.mem ti) (fun p hp e => ?_) S.tabsAll hdef hfree fun f c' pm ctv H1 s' I1 M T1 hf hfn hfr hco => ?_
  · obtain ⟨y, hy, c', e2, e3⟩ := allT_mem hp
    rw [e, cz.gK] at e2
    rw [e3, eq]
    exact L.inj y hy c' e2
  · have eN := M.extN
    have ht := M.tbls
    obtain ⟨nl, nh⟩ := S.noCode eN hco
    refine h f c' pm ctv H1 s' ?_ (Ext.extN S eN ht) (S.extN eN ht T1) hco nl nh
    have hL : f ≠ X.env.locals := fun z => by
      obtain ⟨m, ⟨o, es, ep, ho, hd, _⟩, _⟩ := I1.loc
      rw [← z, hf] at ho
      cases ho
      cases hd
    refine I1.pins_of fun p hp => ?_
    rcases List.mem_cons.mp hp with rfl | hp
    · refine ⟨hf, hfn, hL, fun z => ?_, fun v z => by cases z⟩
      rcases I1.ok.stk with e | ⟨e, _⟩
      · rw [e] at hfr; exact hfr z
      · rw [e] at hfr
        refine hfr ?_
        unfold frs
        rw [List.filterMap_cons]
        split
        · exact z
        · exact List.mem_cons_of_mem _ z
    · exact I1.pin p (List.mem_append_right _ hp)
end
end Z

/-! # a lambda of one parameter is called -/
namespace Z
open PySem PySem.Spec PyProof.Rows L2
/-- one parameter, captured names, names of the module -/
structure LamS1 (nm : List (Str × NameKind)) (scope : Scope) (a : Str) : Prop where
  kind : scope.kind = .function
  co : scope.isCoroutine = false
  gen : scope.isGenerator = false
  par : scope.names.lookup a = some .local
  own : ∀ y ∈ scope.names, y.2 ≠ .cell ∧ (y.2 = .local → y.1 = a)
  free : ∀ y ∈ scope.names, y.2 = .free → nm.lookup y.1 = some .cell ∨ nm.lookup y.1 = some .free
def lamS1B (nm : List (Str × NameKind)) (scope : Scope) (a : Str) : Bool :=
  decide (scope.kind = .function) && !scope.isCoroutine && !scope.isGenerator && decide (scope.names.lookup a = some .local) &&
    scope.names.all fun y => !decide (y.2 = .cell) && (!decide (y.2 = .local) || decide (y.1 = a)) && (!decide (y.2 = .free) || decide (nm.lookup y.1 = some .cell) || decide (nm.lookup y.1 = some .free))
theorem lamS1_by {nm : List (Str × NameKind)} {scope : Scope} {a : Str} (h : lamS1B nm scope a = true) : LamS1 nm scope a := by
  unfold lamS1B at h
  simp only [Bool.and_eq_true, Bool.or_eq_true, Bool.not_eq_true', decide_eq_true_eq, decide_eq_false_iff_not, List.all_eq_true] at h
  obtain ⟨⟨⟨⟨h1, h2⟩, h3⟩, h4⟩, h5⟩ := h
  refine ⟨h1, h2, h3, h4, fun y hy => ⟨(h5 y hy).1.1, fun e => ?_⟩, fun y hy e => ?_⟩
  · rcases (h5 y hy).1.2 with z | z
    · exact absurd e z
    · exact z
  · rcases (h5 y hy).2 with (z | z) | z
    · exact absurd e z
    · exact .inl z
    · exact .inr z
/-- the context of its body, called at s within X -/
def keyCx (X : Cx) (A : Around) (s : Shared) (H : Hp) (scope : Scope) (f c' : Addr) : Cx := (LamX.lamCx X A X.stack s H E0 scope f c').nox
/-- where it is called -/
structure KeyA (X : Cx) (A : Around) (k : Nat) : Prop where
  dp : A.depth < recursionLimit
  hd : A.handled = none
  fr : A.frames = X.A.frames
  gd : A.guards = X.A.guards
  rm : ∀ env : Env, Room k (A.deeper env)
section
variable {G : Gz} {bs : List Str} {k k' : Nat} {X : Cx} {N : List Str} {nm : List (Str × NameKind)} {ow : Str → Bool} {A : Around}
theorem KeyA.in1 (r : Room (k + 1) X.A) : KeyA X X.A.in1 k :=
  ⟨by have := r.dp; show X.A.depth < _; omega, r.hd, rfl, rfl, fun env => ⟨r.hd, by have := r.dp; show X.A.depth + 1 + 3 * k + 5 < _; omega, by have := r.un; show X.A.units + 1 + 3 + 16 * k + 200 < _; omega⟩⟩
theorem KeyA.in2 (r : Room (k + 1) X.A) : KeyA X X.A.in1.in1 k :=
  ⟨by have := r.dp; show X.A.depth < _; omega, r.hd, rfl, rfl, fun env => ⟨r.hd, by have := r.dp; show X.A.depth + 1 + 3 * k + 5 < _; omega, by have := r.un; show X.A.units + 1 + 1 + 3 + 16 * k + 200 < _; omega⟩⟩
theorem keyCx_cz (c : Cz G bs k' X N nm ow) (K : KeyA X A k) {scope : Scope} (hk : scope.kind = .function) (s : Shared) (H : Hp) (f c' : Addr) : Cz G bs k (keyCx X A s H scope f c') N scope.names (fun _ => false) where
  hN := c.hN
  nd := c.nd
  kd := hk
  nm := rfl
  ow := rfl
  calm := rfl
  rm := K.rm _
  gd := (show A.guards = some [] from K.gd.trans c.gd)
  bl := c.bl
  gp := c.gp
  gw := c.gw
  gK := c.gK
  gm := c.gm
  gb := c.gb
  po := PassesOwn.never
theorem LamS1.has (c : Cz G bs k X N nm ow) {scope : Scope} {a : Str} (L : LamS1 nm scope a) (ok : X.Ok) : ∀ y ∈ scope.names, y.2 = .free → ∃ c, X.env.cells.lookup y.1 = some c := fun y hy e => by
  have eN : X.env.scope.names = nm := c.nm
  rcases L.free y hy e with z | z
  · exact ok.has _ (.inl (by show X.env.scope.names.lookup _ = _; rw [eN]; exact z))
  · exact ok.has _ (.inr (by show X.env.scope.names.lookup _ = _; rw [eN]; exact z))
theorem key_start (c : Cz G bs k' X N nm ow) {scope : Scope} {a : Str} {f c' : Addr} {h₁ : Heap} {tk j : Nat} {pins : List (Addr × Obj)} {σ : L2.St} {H : Hp} {s : Shared} {v : V} {u : Value} (I : Inv X pins σ H s) (L : LamS1 nm scope a) (K : KeyA X A k)
    (hns : h₁.Ns s.heap.objs.size fun y => ([(a, u)] : List (Str × Value)).reverse.lookup y) (kp : ∀ b o, s.heap.get? b = some o → h₁.get? b = some o) (r : RelV v u) (hj : N[j]? = some a) :
    Inv (keyCx X A s H scope f c') [] (σ.set j (some v)) H { s with heap := h₁, toks := tk } := by
  have has := L.has c I.ok
  have sub : ∀ {y d}, (cloFrom X.env.cells scope.names []).lookup y = some d → X.env.cells.lookup y = some d := fun {y d} e => by
    rcases cloFrom_mem (PySem.mem_of_lookup e) with z | ⟨z1, z2⟩
    · cases z
    · obtain ⟨d1, hd⟩ := has _ z1 rfl
      have hd : X.env.cells.lookup y = some d1 := hd
      rw [hd] at z2
      have z2 : d = d1 := z2
      rw [z2]; exact hd
  have look : ∀ {y}, scope.names.lookup y = some .free → ∃ d, (cloFrom X.env.cells scope.names []).lookup y = some d := fun {y} hl =>
    mem_lookup (cloFrom_has (cells := X.env.cells) (acc := []) (PySem.mem_of_lookup hl))
  have cellK : ∀ {d : Addr} {w : Option Value}, s.heap.IsCell d w → h₁.IsCell d w := fun {d w} ⟨o, ho, hd⟩ => ⟨o, kp _ _ ho, hd⟩
  have noEx : ∀ b : Addr, b ∉ (keyCx X A s H scope f c').ex := fun b z => absurd (show b ∈ ([] : List Addr) from z) (by simp)
  have e0 : Env0 X.prog X.w X.K X.mg X.base A X.stack s H := ⟨K.fr.trans I.env0.frames, I.env0.mod, I.env0.bs, I.env0.bsz, I.env0.funs, I.env0.frf, I.env0.hok, I.env0.bare⟩
  have eN : X.env.scope.names = nm := c.nm
  have ndX : X.N.Nodup := by rw [c.hN]; exact c.nd
  have hjX : X.N[j]? = some a := by rw [c.hN]; exact hj
  have jl : j < σ.length := by rw [I.len]; exact (List.getElem?_eq_some_iff.mp hjX).1
  have nfr : X.ex = X.ex := rfl
  refine ⟨⟨e0.mod, L.kind, rfl, rfl, Nat.le_refl _, fun y z d e1 e2 => I.ok.inj y z d (sub e1) (sub e2), fun y hy => ?_, fun y d z _ => ?_, fun _ => K.hd, Around.frames_deeper e0.frames, .inr ⟨rfl, rfl⟩, fun b z => absurd z (noEx b), e0.bs, e0.bsz, fun b _ _ => noEx b,
      fun b z => absurd z (noEx b), e0.funs, e0.frf⟩,
    rfl, e0.bare, Un.kept kp, ⟨_, hns, fun i y v' e1 e2 e3 => ?_⟩, fun y d e => ?_, e0.hok.fresh (Nat.le_refl _), fun y d e => I.freeC y d (sub e), fun q hq => absurd (show q ∈ ([] : List (Addr × Obj)) ++ [] from hq) (by simp), e0.hok.kept kp, (List.length_set ..).trans I.len⟩
  · have hy : scope.names.lookup y = some .cell ∨ scope.names.lookup y = some .free := hy
    rcases hy with hy | hy
    · exact absurd rfl (L.own _ (PySem.mem_of_lookup hy)).1
    · exact look hy
  · have z : false = true := z
    cases z
  · have e3 : Vis scope y := e3
    have e1 : X.N[i]? = some y := e1
    rcases e3 with z | z | z
    · have ya : y = a := (L.own _ (PySem.mem_of_lookup z)).2 rfl
      subst ya
      have ij : i = j := nodup_ix ndX e1 hjX
      subst ij
      rw [List.getElem?_set_self jl] at e2
      cases e2
      refine ⟨u, r, .inl ⟨z, ?_⟩⟩
      show List.lookup y [(y, u)] = some u
      simp [List.lookup]
    · exact absurd rfl (L.own _ (PySem.mem_of_lookup z)).1
    · have yj : j ≠ i := fun q => by
        subst q
        rw [hjX] at e1
        cases e1
        rw [L.par] at z; cases z
      rw [List.getElem?_set_ne yj] at e2
      obtain ⟨m, hn, hl⟩ := I.loc
      have fr := L.free _ (PySem.mem_of_lookup z) rfl
      have vis : Vis X.env.scope y := by
        unfold Vis
        rw [eN]
        exact fr.elim (fun q => .inr (.inl q)) (fun q => .inr (.inr q))
      obtain ⟨u', r', q⟩ := hl i y v' e1 e2 vis
      obtain ⟨d2, h2⟩ := look z
      refine ⟨u', r', .inr ⟨.inr z, d2, h2, ?_⟩⟩
      rcases q with ⟨q', _⟩ | ⟨_, d3, e', q'⟩
      · have q' : X.env.scope.names.lookup y = some .local := q'
        rw [eN] at q'
        rcases fr with k2 | k2 <;> rw [q'] at k2 <;> cases k2
      · rw [sub h2] at e'
        cases e'
        exact cellK q'
  · obtain ⟨w, z⟩ := I.cell y d (sub e)
    exact ⟨w, cellK z⟩
/-- the call of f, made where X's frame runs -/
theorem key_run (c : Cz G bs k' X N nm ow) {params : Arguments} {body : Expr} {scope : Scope} {a : Str} {f c' : Addr} {pm ctv : Value} {j : Nat} {pins : List (Addr × Obj)} {σ : L2.St} {H : Hp} {s : Shared} {v : V} {u : Value} {tb : TE} {Q : VK} (I : Inv X pins σ H s) (hf : (f, lamO X params body scope pm c' ctv) ∈ pins)
    (hco : H c' = some (LamX.CodeO c' (X.env.qual ++ "<lambda>"))) (L : LamS1 nm scope a) (K : KeyA X A k) (r : RelV v u) (hj : N[j]? = some a)
    (hbind : ∀ (q : Str) (cl : List (Str × Addr)) (pm cv ctv : Value), bindArgs (PySem.W.kla_fn "<lambda>" q params body scope cl pm cv ctv) ⟨[u], []⟩ = pure [(a, u)])
    (hbody : ∀ X' : Cx, Cz G bs k X' N scope.names (fun _ => false) → X'.prog = X.prog → X'.w = X.w → X'.K = X.K → PE X' body tb) (ht : tb (σ.set j (some v)) H Q) :
    wpAny (model X.prog X.w) A (call (.ref f) [u]) (EP X pins σ Q) (fun _ _ => False) s := by
  have of := (I.pin _ (List.mem_append_right _ hf)).1
  obtain ⟨⟨oc, vs, t, hoc, hdc, hvc⟩, _, _⟩ := I.hok c' _ hco
  have rc : codeAny (model X.prog X.w) A (.call (.ref f) ⟨[u], []⟩) (CR CX0 X.stack X.prog X.w H s Q E0) s := by
    refine PySem.W.kla_callFunE K.dp of rfl L.co L.gen rfl ⟨c', oc, vs, t, rfl, hoc, hdc, hvc⟩ ?_
    rw [hbind]
    refine wpAny_pure (wpAny_newFunctionEnv (fun y hy => (L.own y hy).1) (fun y hy => by rw [List.mem_singleton.mp hy]; exact L.par) (fun h₁ hns hsb => ⟨I.nolimit.fresh _ hsb, ?_⟩) L.kind)
    show codeAny _ _ (.expr body (LamX.lamEnv X scope s.heap.objs.size f c')) _ _
    have kp : ∀ b o, s.heap.get? b = some o → h₁.get? b = some o := fun b o e => hsb.extBut b o (Nat.ne_of_lt (Heap.lt_size e)) (Heap.get?_push_of_some _ e)
    have J := key_start (A := A) (k := k) (f := f) (c' := c') (tk := s.toks + ([(a, u)] : List (Str × Value)).length) c I L K hns kp r hj
    have hb := hbody (keyCx X A s H scope f c') (keyCx_cz c K L.kind s H f c') rfl rfl rfl
    refine PySem.W.kla_codeExpr (wpAny_mono (hb.run [] _ _ H Q J ht) (fun u' s' hq => ?_) fun e s' z => False.elim z)
    obtain ⟨w', H', J', rv, q⟩ := hq
    exact ⟨w', H', J'.os, J'.bare, J'.base, J'.hok, rv, q⟩
  refine wpAny_call (codeAny_mono rc fun r s' hq => ?_)
  cases r with
  | error e => exact False.elim hq
  | ok fl =>
    cases fl with
    | ret u => exact I.after hq
    | next => exact False.elim hq
    | brk => exact False.elim hq
    | cont => exact False.elim hq
end
end Z

/-! # sorted(x, key=lambda a: ..) -/
namespace Z
open PySem PySem.Spec PyProof.Rows L2
section
variable {X : Cx} {pins : List (Addr × Obj)} {σ : L2.St} {H : Hp} {s : Shared}
/-- records of ours have turned, one of them is tracked from now on -/
theorem inv_took {ch : List Addr} {g : Heap} {t' : Nat} {a : Addr} {u : HO} (I : Inv X pins σ H s) (ha : a ∈ ch) (k : ∀ b o, b ∉ ch → s.heap.get? b = some o → g.get? b = some o)
    (hch : ∀ b ∈ ch, H b = none ∧ b ≠ X.env.locals ∧ X.s_0.heap.objs.size ≤ b ∧ (∀ x c, X.env.cells.lookup x = some c → c ≠ b) ∧ ∀ p ∈ X.pn ++ pins, p.1 ≠ b) (new : ObjOk X.prog X.w (upd H a u) g a u) :
    Inv X pins σ (upd H a u) { s with heap := g, toks := t' } := by
  have off : ∀ b v, H b = some v → b ∉ ch := fun b v e z => by rw [(hch b z).1] at e; cases e
  have ne : ∀ b v, H b = some v → b ≠ a := fun b v e z => off b v e (by rw [z]; exact ha)
  refine I.step (g' := s.gens) (d' := s.drawn) (ch := ch) (fun b hb => ⟨.inr (hch b hb).2.2.1, (hch b hb).2.1, (hch b hb).2.2.2.1, (hch b hb).2.2.2.2⟩) (fun b o _ _ hc e _ => k b o hc e) (fun b o _ _ hc e _ => ⟨o.slots, k b o hc e⟩)
    (fun b o hc _ n => by rw [upd_ne (fun z : b = a => hc (by rw [z]; exact ha))]; exact n) (fun b o hc e => ⟨o, k b o hc e⟩) (fun b xs e => by rw [upd_ne (ne b _ e)]; exact e) (fun b o v e => by rw [upd_ne (ne b _ e)]; exact e) (fun b ps e => ⟨#[], by rw [upd_ne (ne b _ e)]; simpa using e⟩)
    (fun m hm => ?_) (fun b v e => ?_) I.bare
  · obtain ⟨o, es, ep, ho, r⟩ := hm
    exact ⟨o, es, ep, k _ o (fun z => (hch _ z).2.1 rfl) ho, r⟩
  · by_cases hb : b = a
    · subst hb
      rw [upd_same] at e; cases e
      exact new
    · rw [upd_ne hb] at e
      refine (I.hok b v e).stay (fun d w hd q => k d w ?_ q) (fun d q => by rw [upd_ne (ne d _ q)]; exact q) fun d xs q => by rw [upd_ne (ne d _ q)]; exact q
      rcases hd with z | z
      · rw [z]; exact off b v e
      · exact off d _ z
/-- one record of ours has turned -/
theorem inv_turn {g : Heap} {t' : Nat} {it : Addr} (I : Inv X pins σ H s) (k : ∀ b o, b ≠ it → s.heap.get? b = some o → g.get? b = some o) (hn : H it = none) (hL : it ≠ X.env.locals) (h1 : X.s_0.heap.objs.size ≤ it)
    (h2 : ∀ x c, X.env.cells.lookup x = some c → c ≠ it) (h3 : ∀ p ∈ X.pn ++ pins, p.1 ≠ it) : Inv X pins σ H { s with heap := g, toks := t' } := I.turned k hn hL (.inr h1) h2 h3
/-- what is new behind I -/
theorem new_off (I : Inv X pins σ H s) {b : Addr} (h : s.heap.objs.size ≤ b) : b ≠ X.env.locals ∧ X.s_0.heap.objs.size ≤ b ∧ b ∉ X.fs ∧ (∀ x c, X.env.cells.lookup x = some c → c ≠ b) ∧ ∀ p ∈ X.pn ++ pins, p.1 ≠ b := by
  refine ⟨fun z => ?_, Nat.le_trans I.sz h, I.nofs h, fun x c e z => ?_, fun p hp z => ?_⟩
  · have lt := I.lt
    rw [← z] at lt
    exact Nat.lt_irrefl _ (Nat.lt_of_lt_of_le lt h)
  · obtain ⟨v, o, ho, _⟩ := I.cell x c e
    rw [z] at ho
    exact Nat.lt_irrefl _ (Nat.lt_of_lt_of_le (Heap.lt_size ho) h)
  · have ho := (I.pin p hp).1
    rw [z] at ho
    exact Nat.lt_irrefl _ (Nat.lt_of_lt_of_le (Heap.lt_size ho) h)
theorem dpAll_each {K : PySem.W.Frag} (hK : X.K = K) (I : Inv X pins σ H s) : ∀ {us : List V} {ps : List PyData} {its : List Value}, DpAll K H us ps → Vals us its → PySem.W.EachIs (fun v k => ∃ as, Reads s.heap v k as) its ps
  | _, _, _, .nil, .nil => .nil
  | _, _, _, .cons d t, .cons r q => by
    subst hK
    exact .cons (Dp.reads I _ _ _ d r) (dpAll_each rfl I t q)
end
/-- the keys of the items, one call behind the other -/
def keysZ (j : Nat) (te : Fn Dv) (env : En) : List Dv → Sto → Rs (List Dv)
  | [], s => .ok [] s
  | d :: ds, s => (te (env.set j (some d)) s).bind fun y s1 => (keysZ j te env ds s1).bind fun ys s2 => .ok (y :: ys) s2
def fSortK (j : Nat) (te : Fn Dv) (fs : Fn (List Dv)) : Fn (List Dv) := fun env s => (fs env s).bind fun xs s1 => match xs with
  | [x] => match seqOf s1 x with
    | some ds => Rs.iff (decide (ds.length ≤ 16777216)) ((keysZ j te env ds s1).bind fun ks s2 => match ks.mapM (pyOf s2) with
      | some ps => Rs.iff (alikeB ps && sortB ps && ds.length == ps.length) (.ok (sortD ds ps) s2)
      | none => .bad)
    | none => .bad
  | _ => .bad
section
variable {G : Gz} {bs : List Str} {k : Nat} {X : Cx} {N : List Str} {nm : List (Str × NameKind)} {ow : Str → Bool} {x a : Str} {cc P : Addr} {j : Nat} {e body : Expr} {params : Arguments} {scope : Scope} {fa te : Fn Dv} {fs : Fn (List Dv)} {p lpos kpos pos : Pos}
theorem z_sortK (c : Cz G bs (k + 1) X N nm ow) (L : Lz G X x cc P) (ha : ZA X [e] fs) (hbody : ∀ X' : Cx, Cz G bs k X' N scope.names (fun _ => false) → ZE X' body te) (ls : lamS1B nm scope a = true := by decide +kernel) (hj : N[j]? = some a := by decide +kernel)
    (hb : bOk bs nm "sorted" = true := by decide +kernel) (hdef : defaultsOf params X.env = ([], []) := by rfl)
    (hbind : ∀ (q : Str) (cl : List (Str × Addr)) (pm cv ctv u : Value), bindArgs (PySem.W.kla_fn "<lambda>" q params body scope cl pm cv ctv) ⟨[u], []⟩ = pure [(a, u)] := by intros; rfl)
    (he : backTo pos (starEach [e] X.env) = (false, eval e X.env) :: backTo pos (starEach [] X.env) := by rfl) (hpl : (backTo pos (starEach [e] X.env)).any (·.1) = false := by rfl) :
    ZL X (.Call (.Name "sorted" p) [e] [⟨some "key", .Lambda params body scope lpos, kpos⟩] pos) (fSortK j te fs) := by
  have LS := lamS1_by ls
  refine ⟨fun pins s σ H Q I h => ?_⟩
  obtain ⟨B, env, st, d, st', hE, hS, hf, hQ⟩ := h
  obtain ⟨xs, st1, h1, hf⟩ := Rs.bind_ok hf
  split at hf
  · rename_i x0
    split at hf
    · rename_i ds e1
      obtain ⟨hz, hf⟩ := Rs.iff_ok hf
      have hz := of_decide_eq_true hz
      obtain ⟨all, st2, hkeys, hf⟩ := Rs.bind_ok hf
      split at hf
      · rename_i ps e2
        obtain ⟨hg, hf⟩ := Rs.iff_ok hf
        rw [Bool.and_eq_true, Bool.and_eq_true] at hg
        obtain ⟨⟨hal, hsb⟩, hlen⟩ := hg
        have hlen : ds.length = ps.length := beq_iff_eq.mp hlen
        cases hf
        refine wpAny_Call_Name_kw (ld_blt I (c.blt hb).1 (c.blt hb).2 (by decide +kernel : bootBuiltins "sorted" = some (.builtin "sorted")) ?_)
        refine PyProof.Rows.callWith_kw (thn (ha.run pos pins s σ H (fun vs H1 => ∃ (v : V) (B1 : Lo), vs = [v] ∧ Ext B H B1 H1 ∧ B1.hid = B.hid ∧ Sim X.K B1 H1 st1 ∧ Rp X.K B1 H1 x0 v) I ⟨B, env, st, [x0], st1, hE, hS, h1, fun B1 H1 vs x1 e1 S1 r1 => ?_⟩)
          fun us s1 ⟨vs, H1, I1, r1, v, B1, ev, x1, eh, S1, rx⟩ => ?_) he hpl (by rfl) (by rfl)
        · cases r1 with
          | cons ra rb =>
            cases rb
            exact ⟨_, B1, rfl, x1, e1, S1, ra⟩
        · subst ev
          have E1 := hE.mono x1.mo
          refine wpAny_evalAll_cons (wpAny_bind (lam_made c L I1 S1 hdef (LS.has c I1.ok) fun f c' pm ctv H2 s2 I2 x2 S2 hco nl nh => wpAny_bind (wpAny_standAt (wpAny_pure (wpAny_evalAll_nil ?_)))))
          obtain ⟨l, us', rfl, hq, r2⟩ := seq_of S2 (rx.mono x2.mo) e1
          rw [Vals.ref1 r1]
          show wpAny _ _ (call (.builtin "sorted") [.ref l] [(Str.ofString "key", .ref f)]) _ _ _
          have tkey : ∃ (its : List Value) (T : String) (o : Obj) (n : Nat), Vals us' its ∧ (T = "list" ∨ T = "tuple") ∧ s2.heap.get? l = some o ∧ o.cls = .type T ∧ o.data = .seq its.toArray n ∧ us'.length ≤ sizeLine := by
            rcases hq with hq | hq
            · obtain ⟨its, r, ⟨o, n, e1, e2, _, e3⟩, hz⟩ := I2.list hq
              exact ⟨its, "list", o, n, r, .inl rfl, e1, e2, e3, hz⟩
            · obtain ⟨its, r, ⟨o, e1, e2, n, e3⟩, hz⟩ := I2.tuple hq
              exact ⟨its, "tuple", o, n, r, .inr rfl, e1, e2, e3, hz⟩
          obtain ⟨its, T, o, n, rv, hT, ho, hc, hd, hzu⟩ := tkey
          have hitl : its.length = ds.length := by rw [← rv.length, ← r2.length]
          refine sorted_seqZ hT ho hc hd (by rw [List.size_toArray, ← rv.length]; exact hzu) (ksk_s1 _ _) fun h' E' kp => ?_
          have I3 : Inv X ((f, lamO X params body scope pm c' ctv) :: pins) σ H2 { s2 with heap := h' } := I2.kept (t' := s2.toks) kp
          have aN : H2 h'.objs.size = none := I3.hok.fresh (Nat.le_refl _)
          have aNew : (h'.push (seqObj "list" its.toArray.toList.toArray 0)).get? h'.objs.size = some (seqObj "list" its.toArray.toList.toArray 0) := Heap.get?_push_size _ rfl
          have hl2 : its.toArray.toList.length = ds.length := by simpa using hitl
          refine wpAny_call_entry_kw slot_list_sort ⟨_, aNew, rfl⟩ entry_list_sort ?_ (ksk_l1 _ _)
          rw [ksk_t1]
          refine keyJ_tree aNew (by rw [hl2]; exact len_line hz) fun g e0 kS hkS nkS naS up => ?_
          have hsz : h'.objs.size + 1 ≤ kS := by
            have e : (h'.push (seqObj "list" its.toArray.toList.toArray 0)).objs.size = h'.objs.size + 1 := Heap.size_push ..
            rw [e] at hkS; exact hkS
          have kN : H2 kS = none := I3.hok.fresh (Nat.le_of_succ_le hsz)
          have offA := new_off I3 (Nat.le_refl _)
          have offK := new_off I3 (b := kS) (Nat.le_of_succ_le hsz)
          have upg : ∀ b o, h'.get? b = some o → g.get? b = some o := fun b o e => up b o (Nat.ne_of_lt (Heap.lt_size e)) (Heap.get?_push_of_some _ e)
          have I4 : Inv X ((f, lamO X params body scope pm c' ctv) :: pins) σ H2 { s2 with heap := g } := I2.kept (t' := s2.toks) fun b o e => upg b o (kp b o e)
          refine ⟨fun i ks t => ∃ (B3 : Lo) (H3 : Hp) (st3 : Sto) (ys rest : List Dv) (ysV : List V), Inv X ((f, lamO X params body scope pm c' ctv) :: pins) σ H3 t ∧ Ext B1 H2 B3 H3 ∧ B3.hid = B1.hid ∧ Sim X.K B3 H3 st3 ∧ Rps X.K B3 H3 ys ysV ∧ Vals ysV ks ∧ keysZ j te env (ds.drop i) st3 = .ok rest st' ∧ ys ++ rest = all ∧
            H3 kS = none ∧ H3 h'.objs.size = none ∧ H3 c' = some (LamX.CodeO c' (X.env.qual ++ "<lambda>")), ⟨?turn⟩, ?start, ?fin⟩
          case start => exact ⟨B1, H2, st1, [], all, [], I4, Ext.refl _ _, rfl, S2, .nil, .nil, hkeys, rfl, kN, aN, hco⟩
          case turn =>
            rintro i y t ks m hx ⟨B3, H3, st3, ys, rest, ysV, J, x3, e3, S3, r3, v3, hk3, hys, k0, a0, c0⟩ n1 n2
            have hx : its[i]? = some y := by simpa using hx
            have hi : i < ds.length := by rw [← hitl]; exact (List.getElem?_eq_some_iff.mp hx).1
            have hdr : ds.drop i = ds[i] :: ds.drop (i + 1) := List.drop_eq_getElem_cons hi
            rw [hdr] at hk3
            obtain ⟨y3, st4, h4, hk3⟩ := Rs.bind_ok hk3
            obtain ⟨ys4, st5, h5, hk3⟩ := Rs.bind_ok hk3
            cases hk3
            obtain ⟨v, hv, rv1⟩ := r2.get (List.getElem?_eq_getElem hi)
            obtain ⟨y', hy', ry⟩ := rv.get hv
            rw [hx] at hy'
            cases hy'
            have J2 : Inv X (((f, lamO X params body scope pm c' ctv) :: pins) ++ [(kS, seqObj "list" ks.toArray m), (h'.objs.size, seqObj "list" #[] e0)]) σ H3 t := J.pins_of fun q hq => by
              rcases List.mem_append.mp hq with hq | hq
              · exact J.pin q (List.mem_append_right _ hq)
              · rcases List.mem_cons.mp hq with rfl | hq
                · exact ⟨n1, k0, offK.1, offK.2.2.1, fun v z => by cases z⟩
                · rw [List.mem_singleton.mp hq]
                  exact ⟨n2, a0, offA.1, offA.2.2.1, fun v z => by cases z⟩
            have bd : ∀ X' : Cx, Cz G bs k X' N scope.names (fun _ => false) → X'.prog = X.prog → X'.w = X.w → X'.K = X.K → PE X' body (tOf X.K te) := fun X' c1 _ _ eK => by
              have q := hbody X' c1
              unfold ZE at q
              rw [eK] at q
              exact q
            refine wpAny_mono (key_run c J2 (List.mem_append_left _ List.mem_cons_self) c0 LS (KeyA.in2 c.rm) ry hj (fun q cl pm cv ctv => hbind q cl pm cv ctv _) bd
              (Q := fun v4 H4 => ∃ B4, Ext B3 H3 B4 H4 ∧ B4.hid = B3.hid ∧ Sim X.K B4 H4 st4 ∧ Rp X.K B4 H4 y3 v4)
              ⟨B3, env.set j (some ds[i]), st3, y3, st4, (E1.mono (x2.mo.trans x3.mo)).set j (rv1.mono x3.mo), S3, h4, fun B4 H4 v4 x4 e4 S4 r4 => ⟨B4, x4, e4, S4, r4⟩⟩) (fun u t' hq => ?_) fun _ _ z => z
            obtain ⟨v4, H4, J4, ru, B4, x4, e4, S4, r4⟩ := hq
            have p1 := J4.pin (kS, seqObj "list" ks.toArray m) (by simp)
            have p2 := J4.pin (h'.objs.size, seqObj "list" #[] e0) (by simp)
            refine ⟨p1.1, p2.1, fun g2 hg2 => ?_⟩
            have J5 := J4.unpinned
            refine ⟨B4, H4, st4, ys ++ [y3], ys4, ysV ++ [v4], inv_turn J5 hg2 p1.2.1 offK.1 offK.2.1 offK.2.2.2.1 offK.2.2.2.2, x3.trans x4, e4.trans e3, S4, (r3.mono x4.mo).append (.cons r4 .nil), v3.snoc ru, h5, by rw [← hys, List.append_assoc]; rfl, p1.2.1, p2.2.1,
              x4.mo.keep _ _ c0 (fun z => ?_) (fun z => ?_) fun ps z => LamX.codeO_ne ps z⟩
            · exact (S3.noCode (LamX.ExtN.refl _) c0).1 z
            · exact (S3.noCode (LamX.ExtN.refl _) c0).2 z
          case fin =>
            rintro t ks ⟨B3, H3, st3, ys, rest, ysV, J, x3, e3, S3, r3, v3, hk3, hys, k0, a0, c0⟩ hkl
            rw [hl2, List.drop_length] at hk3
            have hk3' : Rs.ok [] st3 = .ok rest st' := hk3
            cases hk3'
            rw [List.append_nil] at hys
            subst hys
            have dp := dps_of S3 r3 e2
            refine ⟨ps, dpAll_each rfl J dp v3, alikeB_ok hal, sortB_ok hsb, fun d hd => ?_, fun g2 tk out c2 hg2 ha2 ko => ?_⟩
            · have h2 := pys_depth e2 d hd
              have h3 := c.un
              show X.A.units + 1 + 1 + d.depth < cLine
              omega
            · have r5 : Rps X.K B3 H3 ds us' := r2.mono x3.mo
              have hup : us'.length = ps.length := r5.length.symm.trans hlen
              have ev : PySem.W.EachIs (fun v (b : V × PyData) => RelV b.1 v) its.toArray.toList (us'.zip ps) := by
                have := vals_each (ps := ps) rv hup
                simpa using this
              have eo := PySem.W.keyedOut_each (β := V × PyData) (bs := us'.zip ps) (R := fun v (b : V × PyData) => RelV b.1 v) (·.2) (by rw [zip_snd hup]; exact ko) ev
              have hzz : (((us'.zip ps).mergeSort (PySem.W.dataLe false (·.2))).map (·.1)).length ≤ sizeLine := by
                rw [List.length_map, List.length_mergeSort, List.length_zip, ← hup, Nat.min_self]; exact hzu
              have Jp : Inv X pins σ H3 t := J.pins_of fun q hq => J.pin q (List.mem_append_right _ (List.mem_cons_of_mem _ hq))
              have I7 := inv_took (t' := tk) (g := g2) (ch := [h'.objs.size, kS]) (a := h'.objs.size) (u := .lst (((us'.zip ps).mergeSort (PySem.W.dataLe false (·.2))).map (·.1))) Jp List.mem_cons_self
                (fun b o hb e => hg2 b o (fun z => hb (by simp [z])) (fun z => hb (by simp [z])) e) (fun b hb => ?_) ⟨hzz, out, c2, each_vals eo, ha2⟩
              · refine ⟨.none, rfl, .ref h'.objs.size, _, I7, rfl, ?_⟩
                have hn : H3 h'.objs.size = none := a0
                exact new_lst S3 (sort_rp r5 hlen) hn fun B' H' p xs x5 e5 S5 hh hn' hl' r6 => hQ B' H' p xs ((x1.trans x2).trans (x3.trans x5)) (e5.trans (e3.trans eh)) S5 hh
                  ((x1.trans x2).was_none (new_none (x3) x5 S5 hn') fun z => (S5.hid p List.mem_cons_self).1 (x5.mo.pre.subset (x3.mo.pre.subset (x1.mo.pre.subset z)))) hl' r6
              · rcases List.mem_cons.mp hb with z | z
                · rw [z]; exact ⟨a0, offA.1, offA.2.1, offA.2.2.2.1, fun q hq => offA.2.2.2.2 q ((List.mem_append.mp hq).elim (List.mem_append_left _) fun z => List.mem_append_right _ (List.mem_cons_of_mem _ z))⟩
                · rw [List.mem_singleton.mp z]; exact ⟨k0, offK.1, offK.2.1, offK.2.2.2.1, fun q hq => offK.2.2.2.2 q ((List.mem_append.mp hq).elim (List.mem_append_left _) fun z => List.mem_append_right _ (List.mem_cons_of_mem _ z))⟩
      · cases hf
    · cases hf
  · cases hf
end
end Z

/-! # defs in which lambdas are made -/
namespace Z
open PySem PySem.Spec PyProof.Rows L2
theorem tab_code {K : PySem.W.Frag} {x : Str} {f c P : Addr} {oc : Value} {od : Option Addr} {fd : FuncData} {sl : Array (Option Value)} (a : PySem.W.nsIn K mainGlobals x = some (some (.ref f))) (l : K.lookup f = some ⟨oc, od, .func fd, sl⟩) (t : PySem.W.tabIn K x = some (c, P)) : fd.code = .ref c := by
  unfold PySem.W.tabIn at t
  rw [a] at t
  dsimp only at t
  rw [l] at t
  dsimp only at t
  split at t
  · rename_i c0 hc0
    split at t
    · split at t
      · cases t; exact hc0
      · cases t
    · cases t
  · cases t
theorem tab_mk {K : PySem.W.Frag} {x : Str} {f c P : Addr} {oc oc2 : Value} {od od2 : Option Addr} {fd : FuncData} {sl sl2 : Array (Option Value)} {vs : Array Value} (a : PySem.W.nsIn K mainGlobals x = some (some (.ref f))) (l : K.lookup f = some ⟨oc, od, .func fd, sl⟩) (e : fd.code = .ref c)
    (lc : K.lookup c = some ⟨oc2, od2, .fields vs, sl2⟩) (v : vs[11]? = some (.ref P)) : PySem.W.tabIn K x = some (c, P) := by
  unfold PySem.W.tabIn
  rw [a]; dsimp only
  rw [l]; dsimp only
  rw [e]; dsimp only
  rw [lc]; dsimp only
  rw [v]
section
variable {G : Gz} {bs : List Str} {k : Nat} {X : Cx} {N : List Str} {nm : List (Str × NameKind)} {ow : Str → Bool} {elt tg iter : Expr} {ifs : List Expr} {scope : Scope} {own : List (Str × Nat)} {pos : Pos} {q : Bool} {fi : Fn Src} {is : List Nat} {g : Dv → Fn En} {tt : Fn Bool} {te : Fn Dv}
end
/-- a def of the module that makes lambdas -/
theorem fz_mkL {G : Gz} {bs : List Str} {k n : Nat} {x qual : Str} {st : Stmt} {f : Addr} {fd : FuncData} {N ps : List Str} {nm : List (Str × NameKind)} {body : Fn Ct} (F : Fun G.K x qual st f fd) (hm : G.mg x = some (.ref f)) (hb : Binds G.K fd ps []) (hn : ps.length = n) (S : FnScope N ps (defScope st)) (hnm : (defScope st).names = nm)
    (hbl : ∀ y ∈ bs, G.mg y = none) (hbody : ∀ X : Cx, Cz G bs k X N nm (fun _ => true) → X.env.qual = qual ++ (".<locals>." : Str) → X.env.code = fd.code → ZB X (defBody st) body) : Fz G (k + 1) x n (fDef n N.length body) := by
  subst hn
  refine ⟨fun ds s d s' h => ?_, f, fd, ps, hm, F.kp, hb, rfl, z_fnQ F S hnm hbl fun X c _ _ h3 h4 => hbody X c h3 h4⟩
  exact beq_iff_eq.mp (Rs.iff_ok h).1
end Z

/-! # [..] * a number that is made up -/
namespace Z
open PySem PySem.Spec PyProof.Rows L2
def fTimesE (f : Fn (List Dv)) (g : Fn Dv) : Fn (List Dv) := fun env s => (f env s).bind fun ds s1 => (g env s1).bind fun y s2 => match y with
  | .int i => Rs.iff (decide (0 ≤ i) && decide (i ≤ 1000) && decide (ds.length * i.toNat ≤ 16777216)) (.ok (List.replicate i.toNat ds).flatten s2)
  | _ => .bad
section
variable {X : Cx} {a b : Expr} {f : Fn (List Dv)} {g : Fn Dv} {pos : Pos}
end
end Z

/-! # a name in a dict -/
namespace Z
open PySem PySem.Spec PyProof.Rows L2
def gInK (x y : Dv) (s : Sto) : Rs Dv := match y with
  | .loc n => match s[n]? with
    | some (.dk kvs) => match keyD x with
      | some k => .ok (.bl (kvs.any fun kv => decide (kv.1 = k))) s
      | none => .bad
    | _ => .bad
  | _ => .bad
def gNotInK := gNot gInK
def rInK (neg : Bool) : R2 := fun y x H Q => ∃ a o, x = .ref a ∧ DGet H a y o ∧ Q (.bl (if neg then !o.isSome else o.isSome)) H
section
variable {G : Gz} {bs : List Str} {k : Nat} {X : Cx} {N : List Str} {nm : List (Str × NameKind)} {ow : Str → Bool} {a b c e : Expr} {fa fb fc : Fn Dv} {pos : Pos}
end
end Z

/-! # d.get(k, x) -/
namespace Z
open PySem PySem.Spec PyProof.Rows L2
def isDk (x : Dv) (s : Sto) : Bool := match x with
  | .loc n => match s[n]? with
    | some (.dk _) => true
    | _ => false
  | _ => false
def gGetD (x y z : Dv) (s : Sto) : Rs Dv := match x with
  | .loc n => match s[n]? with
    | some (.dk kvs) => match keyD y with
      | some k => .ok ((lookK kvs k).getD z) s
      | none => .bad
    | _ => .bad
  | _ => .bad
def fGet2 (fo fe ff : Fn Dv) : Fn Dv := fun env s => (fo env s).bind fun x s1 => Rs.iff (isDk x s1) ((fe env s1).bind fun y s2 => (ff env s2).bind fun z s3 => gGetD x y z s3)
section
variable {G : Gz} {bs : List Str} {k : Nat} {X : Cx} {N : List Str} {nm : List (Str × NameKind)} {ow : Str → Bool} {o e f : Expr} {fo fe ff : Fn Dv} {apos cpos : Pos}
end
end Z

/-! # min(x, key=lambda a: ..) of a tuple, where the keys read only -/
namespace Z
open PySem PySem.Spec PyProof.Rows L2 PySem.Calls
section
variable {G : Gz} {bs : List Str} {k k' : Nat} {X : Cx} {N : List Str} {nm : List (Str × NameKind)} {ow : Str → Bool} {A : Around}
end
/-- the keys, where reading them leaves all as it is -/
noncomputable def keysI (j : Nat) (te : Fn Dv) (env : En) (s : Sto) (ds : List Dv) : Option (List Int) :=
  open Classical in if h : ∃ ks : List Int, ∀ i d, ds[i]? = some d → te (env.set j (some d)) s = .ok (.int (ks.getD i 0)) s then some (Classical.choose h) else none
def ltI (ks : List Int) (i j : Nat) : Bool := decide (ks.getD i 0 < ks.getD j 0)
noncomputable def fMinK (j : Nat) (te : Fn Dv) (fs : Fn (List Dv)) : Fn Dv := fun env s => (fs env s).bind fun xs s1 => match xs with
  | [.tup ds] => match keysI j te env s1 ds with
    | some ks => match ds[argBest (ltI ks) (ds.length - 1)]? with
      | some d => .ok d s1
      | none => .bad
    | none => .bad
  | _ => .bad
section
variable {G : Gz} {bs : List Str} {k : Nat} {X : Cx} {N : List Str} {nm : List (Str × NameKind)} {ow : Str → Bool} {x a : Str} {cc P : Addr} {j : Nat} {e body : Expr} {params : Arguments} {scope : Scope} {fa te : Fn Dv} {fs : Fn (List Dv)} {p lpos kpos pos : Pos}
end
end Z

/-! # min(xs) of a list of data -/
namespace Z
open PySem PySem.Spec PyProof.Rows L2
def ltD (ps : List PyData) (i j : Nat) : Bool := PySem.W.dataLt (ps.getD i .none) (ps.getD j .none)
def noNone (ps : List PyData) : Bool := ps.all fun p => match p with | .none => false | _ => true
def gMinD (xs : List Dv) (s : Sto) : Rs Dv := match xs with
  | [x] => match seqOf s x with
    | some ds => match ds.mapM (pyOf s) with
      | some ps => Rs.iff (isL x s && (alikeB ps && noNone ps) && ds.length == ps.length) (match ds[PySem.argBest (ltD ps) (ds.length - 1)]? with
        | some d => .ok d s
        | none => .bad)
      | none => .bad
    | none => .bad
  | _ => .bad
def rMinD (K : PySem.W.Frag) : List V → Hp → VK → Prop := fun vs H Q => ∃ (a : Addr) (us : List V) (ps : List PyData), vs = [V.ref a] ∧ SqL K H a us ∧ DpAll K H us ps ∧ PySem.W.AlikeAll ps ∧ us.length = ps.length ∧ 0 < us.length ∧ (∀ p ∈ ps, p.depth ≤ 40) ∧
  ∀ v, us[PySem.argBest (ltD ps) (us.length - 1)]? = some v → Q v H
section
variable {X : Cx}
end
section
variable {G : Gz} {bs : List Str} {k : Nat} {X : Cx} {N : List Str} {nm : List (Str × NameKind)} {ow : Str → Bool} {e : Expr} {fs : Fn (List Dv)} {pos p : Pos}
end
end Z

/-! # y = [.. for ..], with a lambda within -/
namespace Z
open PySem PySem.Spec PyProof.Rows L2
section
variable {G : Gz} {bs : List Str} {k : Nat} {X : Cx} {N : List Str} {nm : List (Str × NameKind)} {ow : Str → Bool} {q : Bool} {tg iter elt : Expr} {ifs : List Expr} {scope : Scope} {fsr : Fn Src} {is : List Nat} {g : Dv → Fn En} {tt : Fn Bool} {te : Fn Dv} {pos : Pos} {y : Str}
end
end Z

/-! # Defs that may raise, with defaults, by keywords -/
namespace Z
open PySem PySem.Spec PyProof.Rows L2
section
variable {G : Gz} {bs : List Str} {k : Nat} {X : Cx} {N : List Str} {nm : List (Str × NameKind)} {ow : Str → Bool} {W : WX} {e : Expr} {es : List Expr} {fs gs : Fn (List Dv)} {pos p : Pos} {x : Str} {n : Nat} {φ : Phi}
structure FdX (G : Gz) (k : Nat) (x : Str) (n : Nat) (φ : Phi) (f : Addr) (fd : FuncData) (ps : List Str) : Prop where
  len : ∀ ds s, φ ds s ≠ .bad → ds.length = n
  mg : G.mg x = some (.ref f)
  kp : PySem.W.keepIn G.K (.ref f) = true
  hn : ps.length = n
  run : FnX G k f fd ps (spX G.K G.mg n φ)
theorem FdX.mono {G : Gz} {j k : Nat} {x : Str} {n : Nat} {φ : Phi} {f : Addr} {fd : FuncData} {ps : List Str} (F : FdX G j x n φ f fd ps) (h : j ≤ k) : FdX G k x n φ f fd ps :=
  ⟨F.len, F.mg, F.kp, F.hn, ⟨fun A outer s H args us vs Q E hg hr => F.run.run A outer s H args us vs Q E hg (hr.mono h)⟩⟩
def fCallXK (φ : Phi) (m j : Nat) (f g : Fn (List Dv)) : Fn Dv := fun env s => ((f env s).bind fun xs s1 => (g env s1).bind fun zs s2 => Rs.iff (xs.length == m && zs.length == j) (.ok (xs ++ zs) s2)).sure.bind φ
end
end Z

/-! # A lambda without parameters that may raise, asked where an error is handled -/
namespace Z
open PySem PySem.Spec PyProof.Rows L2
/-- no parameter, no name of its own -/
structure LamS0 (nm : List (Str × NameKind)) (scope : Scope) : Prop where
  kind : scope.kind = .function
  co : scope.isCoroutine = false
  gen : scope.isGenerator = false
  own : ∀ y ∈ scope.names, y.2 ≠ .local ∧ y.2 ≠ .cell
  free : ∀ y ∈ scope.names, y.2 = .free → nm.lookup y.1 = some .cell ∨ nm.lookup y.1 = some .free
def lamS0B (nm : List (Str × NameKind)) (scope : Scope) : Bool :=
  decide (scope.kind = .function) && !scope.isCoroutine && !scope.isGenerator && scope.names.all fun y => !decide (y.2 = .local) && !decide (y.2 = .cell) && (!decide (y.2 = .free) || decide (nm.lookup y.1 = some .cell) || decide (nm.lookup y.1 = some .free))
theorem lamS0_by {nm : List (Str × NameKind)} {scope : Scope} (h : lamS0B nm scope = true) : LamS0 nm scope := by
  unfold lamS0B at h
  simp only [Bool.and_eq_true, Bool.or_eq_true, Bool.not_eq_true', decide_eq_true_eq, decide_eq_false_iff_not, List.all_eq_true] at h
  obtain ⟨⟨⟨h1, h2⟩, h3⟩, h4⟩ := h
  refine ⟨h1, h2, h3, fun y hy => (h4 y hy).1, fun y hy e => ?_⟩
  rcases (h4 y hy).2 with (z | z) | z
  · exact absurd e z
  · exact .inl z
  · exact .inr z
/-- where the lambda's body runs -/
def askCx (X : Cx) (A : Around) (outer : List Env) (s : Shared) (H : Hp) (E : XK) (scope : Scope) (f c' : Addr) : Cx :=
  (LamX.lamCx X A outer s H E0 scope f c').wish (fun e s' => wpAny (model X.prog X.w) (A.deeper (LamX.lamEnv X scope s.heap.objs.size f c')) (leaving (LamX.lamEnv X scope s.heap.objs.size f c') e) (fun _ s'' => L2N.CX X.prog X.w outer H s E e s'') (fun e' s'' => L2N.CX X.prog X.w outer H s E e' s'') s')
section
variable {G : Gz} {bs : List Str} {k k' : Nat} {X : Cx} {N : List Str} {nm : List (Str × NameKind)} {ow : Str → Bool} {x : Str} {c P : Addr}
theorem LamS0.sc (c : Cz G bs k X N nm ow) {scope : Scope} (L : LamS0 nm scope) : LamX.LamS X.env.scope scope :=
  ⟨L.kind, L.co, L.gen, L.own, fun y hy e => by
    have eN : X.env.scope.names = nm := c.nm
    rw [eN]; exact L.free y hy e⟩
theorem askCx_cz (c : Cz G bs k' X N nm ow) {A : Around} {outer : List Env} {s : Shared} {H : Hp} {E : XK} {scope : Scope} {f c' : Addr} (hk : scope.kind = .function) (hr : Room k (A.deeper (LamX.lamEnv X scope s.heap.objs.size f c'))) (hg : A.guards = some []) :
    Cz G bs k (askCx X A outer s H E scope f c') N scope.names (fun _ => false) where
  hN := c.hN
  nd := c.nd
  kd := hk
  nm := rfl
  ow := rfl
  calm := rfl
  rm := hr
  gd := hg
  bl := c.bl
  gp := c.gp
  gw := c.gw
  gK := c.gK
  gm := c.gm
  gb := c.gb
  po := passes_of rfl
theorem lam_made2 (cz : Cz G bs k X N nm ow) (L : Lz G X x c P) {params : Arguments} {body : Expr} {scope : Scope} {pos : Pos} {pins : List (Addr × Obj)} {σ : L2.St} {H : Hp} {s : Shared} {B : Lo} {st : Sto} {E Q : Value → Shared → Prop} (I : Inv X pins σ H s) (S : Sim X.K B H st)
    (hdef : defaultsOf params X.env = ([], [])) (hfree : ∀ y ∈ scope.names, y.2 = .free → ∃ c, X.env.cells.lookup y.1 = some c)
    (h : ∀ (f c' : Addr) (pm ctv : Value) (H1 : Hp) (s' : Shared), Inv X pins σ H1 s' → Ext B H B H1 → Sim X.K B H1 st → H1 c' = some (LamX.CodeO c' (X.env.qual ++ "<lambda>")) → c' ∉ B.locs → c' ∉ B.hid →
      s'.heap.get? f = some (lamO X params body scope pm c' ctv) → H1 f = none → f ∉ frs X.stack → Q (.ref f) s') :
    wpAny (model X.prog X.w) X.A (eval (.Lambda params body scope pos) X.env) Q E s := by
  have eq : X.env.qual ++ ("<lambda>" : Str) = lamQ x := by rw [L.q]; rfl
  have ti : PySem.W.tabIn X.K x = some (c, P) := by rw [cz.gK]; exact L.ti
  refine lam_make0 (T := allT X.K) (c := c) (P := P) I (by rw [cz.gb, cz.gm]; exact L.tb) L.cd (by rw [eq]; exact mem_allT L.mem ti) (fun p hp e => ?_) S.tabsAll hdef hfree fun f c' pm ctv H1 s' I1 M T1 hf hfn hfr hco => ?_
  · obtain ⟨y, hy, c', e2, e3⟩ := allT_mem hp
    rw [e, cz.gK] at e2
    rw [e3, eq]
    exact L.inj y hy c' e2
  · have eN := M.extN
    have ht := M.tbls
    obtain ⟨nl, nh⟩ := S.noCode eN hco
    exact h f c' pm ctv H1 s' I1 (Ext.extN S eN ht) (S.extN eN ht T1) hco nl nh hf hfn hfr
/-- what the asking of a lambda comes to: its body's reading at the maker's slots -/
def tAsk (K : PySem.W.Frag) (mg : Str → Option Value) (i : Nat) (f c' : Addr) (q : Str) (σ : L2.St) (fb : Fn Dv) (W : WX) : TE := fun σZ HZ Q => σZ[i]? = some (some (.ref f)) ∧ HZ c' = some (LamX.CodeO c' q) ∧ tX K mg (fun cls d _ H => WE W σZ cls d H) fb σ HZ Q
theorem pe_ask {CXg : CXT} {Eg : XK} {Ng : List Str} {qg : Str} {sg : Scope} {g f c' : Addr} {cdg pm ctv : Value} {params : Arguments} {body : Expr} {scope : Scope} {k i : Nat} {a : Str} {pn : List (Addr × Obj)} {xe : Value → Shared → Prop} {W : WX} {fb : Fn Dv} {p1 p2 : Pos} {pins : List (Addr × Obj)} {σ : L2.St} {H : Hp} {s : Shared}
    (c : Cz G bs k' X N nm ow) (I : Inv X pins σ H s) (L : LamS0 nm scope) (hf : s.heap.get? f = some (lamO X params body scope pm c' ctv)) (hfn : H f = none) (hfr : f ∉ frs X.stack)
    (hbind : bindArgs (PySem.W.kla_fn "<lambda>" (X.env.qual ++ "<lambda>") params body scope (cloFrom X.env.cells scope.names []) pm (.ref c') ctv) ⟨[], []⟩ = pure [])
    (tk : L2N.Takes ((cxOf CXg X.prog X.w X.K X.mg X.base Ng qg sg g cdg X.A X.stack s H Eg).tr pn xe) W) (hr : Room (k + 1) (X.A.deeper (envOfC qg sg s.heap.objs.size g cdg)))
    (hbody : ∀ (X' : Cx) (E : XK), Cz G bs k X' N scope.names (fun _ => false) → L2N.Takes X' (fun cls d _ H => E cls d H) → ZX X' (fun cls d _ H => E cls d H) body fb)
    (hN : Ng[i]? = some a) (hv : Vis sg a) (hd : (a == ("__debug__" : Str)) = false := by decide +kernel) (hcd : (a == ("__classdict__" : Str)) = false := by decide +kernel) :
    PE ((cxOf CXg X.prog X.w X.K X.mg X.base Ng qg sg g cdg X.A X.stack s H Eg).tr pn xe) (.Call (.Name a p1) [] [] p2) (tAsk X.K X.mg i f c' (X.env.qual ++ "<lambda>") σ fb W) := by
  have L' := L.sc c
  refine ⟨fun pinsZ sZ σZ HZ Q IZ h => ?_⟩
  obtain ⟨hs, hc, ht⟩ := h
  refine wpAny_Call_Name_kw (thn ((pe_var (pos := p1) (i := i) hN hv hd hcd).run pinsZ sZ σZ HZ (fun v H1 => v = .ref f ∧ H1 = HZ) IZ ⟨.ref f, hs, rfl, rfl⟩) fun u s1 ⟨v, H1, I1, r1, q1⟩ => ?_)
  obtain ⟨ev, eH⟩ := q1
  subst ev
  rw [eH] at I1
  obtain rfl : u = Value.ref f := r1
  have of1 : s1.heap.get? f = some (lamO X params body scope pm c' ctv) := I1.base.keep f _ hf hfn hfr (fun z => nomatch (show f ∈ ([] : List Addr) from z))
  refine PySem.W.callWith_F0 ⟨_, _, _, _, of1⟩ ?_
  have un : Un (frs X.stack) [] H HZ s.heap s1.heap := I1.base
  obtain ⟨⟨oc, vs, t, hoc, hdc, hvc⟩, _, _⟩ := I1.hok c' _ hc
  have rc : codeAny (model X.prog X.w) (X.A.deeper (envOfC qg sg s.heap.objs.size g cdg)) (.call (.ref f) ⟨[], []⟩) (CR (L2N.CX X.prog X.w) (envOfC qg sg s.heap.objs.size g cdg :: X.stack) X.prog X.w HZ s1 Q (WE W σZ)) s1 := by
    refine PySem.W.kla_callFunE hr.depth of1 rfl L'.co L'.gen rfl ⟨c', oc, vs, t, rfl, hoc, hdc, hvc⟩ ?_
    rw [hbind]
    refine wpAny_pure (wpAny_newFunctionEnv (fun y hy => (L'.own y hy).2) (fun y hy => absurd hy (by simp)) (fun h₁ hns hsb => ⟨I1.nolimit.fresh _ hsb, ?_⟩) L'.kind)
    show codeAny _ _ (.expr body (LamX.lamEnv X scope s1.heap.objs.size f c')) _ _
    have kp : ∀ b o, s1.heap.get? b = some o → h₁.get? b = some o := fun b o e => hsb.extBut b o (Nat.ne_of_lt (Heap.lt_size e)) (Heap.get?_push_of_some _ e)
    have J0 : Inv (LamX.lamCx X (X.A.deeper (envOfC qg sg s.heap.objs.size g cdg)) (envOfC qg sg s.heap.objs.size g cdg :: X.stack) s1 HZ E0 scope f c') [] σ HZ { s1 with heap := h₁, toks := s1.toks + ([] : List (Str × Value)).length } :=
      LamX.lam_start2 I L' I1.env0 hr.hd un hns kp
    have J : Inv (askCx X (X.A.deeper (envOfC qg sg s.heap.objs.size g cdg)) (envOfC qg sg s.heap.objs.size g cdg :: X.stack) s1 HZ (WE W σZ) scope f c') [] σ HZ { s1 with heap := h₁, toks := s1.toks + ([] : List (Str × Value)).length } := J0.wish _
    have cz := askCx_cz (A := X.A.deeper (envOfC qg sg s.heap.objs.size g cdg)) (outer := envOfC qg sg s.heap.objs.size g cdg :: X.stack) (s := s1) (H := HZ) (E := WE W σZ) (f := f) (c' := c') c L.kind (hr.deeper _) (show X.A.guards = some [] from c.gd)
    have tk' : L2N.Takes (askCx X (X.A.deeper (envOfC qg sg s.heap.objs.size g cdg)) (envOfC qg sg s.heap.objs.size g cdg :: X.stack) s1 HZ (WE W σZ) scope f c') (fun cls d _ H => WE W σZ cls d H) := L2N.takes_of rfl rfl rfl rfl
    refine PySem.W.kla_codeExpr (wpAny_mono ((hbody _ _ cz tk').run [] _ _ HZ Q J ht) (fun v s' hq => ?_) fun e s' hq => hq)
    obtain ⟨w', H', J', rv, q⟩ := hq
    exact ⟨w', H', J'.os, J'.bare, J'.base, J'.hok, rv, q⟩
  refine wpAny_call (codeAny_mono rc fun r s' hq => ?_)
  cases r with
  | error e => exact L2N.passAt tk σZ pinsZ HZ s1 e s' I1 hq
  | ok fl =>
    cases fl with
    | ret u => exact I1.after hq
    | next => exact False.elim hq
    | brk => exact False.elim hq
    | cont => exact False.elim hq
end
end Z

/-! # _law_heard(lambda: ..) -/
namespace Z
open PySem PySem.Spec PyProof.Rows L2 PySem.W
def oddT : Dv := .tup [.str (Str.ofString "odd")]
/-- the shape of the def, its suite's reading -/
structure HeardB (pr : Nat → Bool) (G : Gz) (bs : List Str) (k : Nat) (Nh : List Str) (nmh : List (Str × NameKind)) (st : Stmt) (gs : Addr → Addr → Nat → Fn Ct) : Prop where
  scope : FnScope Nh ["ask"] (defScope st)
  names : (defScope st).names = nmh
  n0 : Nh[0]? = some ("ask" : Str)
  n1 : Nh[1]? = some ("found" : Str)
  n2 : Nh[2]? = some ("e" : Str)
  l0 : nmh.lookup ("ask" : Str) = some .local
  l1 : nmh.lookup ("found" : Str) = some .local
  l2 : nmh.lookup ("e" : Str) = some .local
  g1 : gOk nmh "CountError" = true
  g2 : gOk nmh "LostError" = true
  shape : ∃ (b0 : Stmt) (suite : List Stmt) (p1 p2 p3 p4 p5 p6 p7 p8 p9 p10 p11 p12 p13 p14 p15 p16 p17 : Pos) (j1 j2 k1 k2 k3 : Nat),
    defBody st = [.Assign [.Name "found" p1] (.Tuple [.Constant (.str "odd") j1 p2] k1 p3) p4,
      .Try [.Assign [.Name "found" p5] (.Tuple [.Constant (.str "told") j2 p6, .Call (.Name "ask" p7) [] [] p8] k2 p9) p10]
        [.ExceptHandler (some (.Tuple [.Name "CountError" p11, .Name "LostError" p12] k3 p13)) (some "e") (b0 :: suite) p14] [] [] p15,
      .Return (some (.Name "found" p16)) p17] ∧
    ∀ (X' : Cx) (a dd : Addr) (cn : Nat), Ch pr G bs k X' Nh nmh a dd cn → ZB X' (b0 :: suite) (gs a dd cn)
noncomputable def fHeard (pr : Nat → Bool) (m : Nat) (gs : Addr → Addr → Nat → Fn Ct) (fb : Fn Dv) : Fn Dv := fun env s => match fb env s with
  | .ok d s1 => gcZ s.length (.tup [.str (Str.ofString "told"), d]) s1
  | .exc (.xn _ _ cn fs) s1 => Rs.iff (decide (cn < 9) && pr cn) (allX fun a dd => (gs a dd cn (((List.replicate m none).set 1 (some oddT)).set 2 (some (.xn a dd cn fs))) s1).bind fun ct s2 => match ct with
    | .next e => (match e[1]? with | some (some d) => gcZ s.length d s2 | _ => .bad)
    | _ => .bad)
  | _ => .bad
abbrev heardCx (X : Cx) (Nh : List Str) (st : Stmt) (g : Addr) (cdv : Value) (s' : Shared) (H1 : Hp) : Cx := cxOf CX0 X.prog X.w X.K X.mg X.base Nh "_law_heard" (defScope st) g cdv X.A X.stack s' H1 E0
section
variable {pr : Nat → Bool} {G : Gz} {bs bsh : List Str} {k kh : Nat} {X : Cx} {N Nh : List Str} {nm nmh : List (Str × NameKind)} {ow : Str → Bool} {x : Str} {cc P : Addr} {params : Arguments} {body : Expr} {scope : Scope} {fb : Fn Dv} {p lpos pos : Pos} {st : Stmt} {g : Addr} {fd : FuncData} {gs : Addr → Addr → Nat → Fn Ct} {A : Nat → Addr}
theorem z_heard (c : Cz G bs k X N nm ow) (L : Lz G X x cc P) (T : ErrsT G.K G.mg A pr) (F : Fun G.K "_law_heard" "_law_heard" st g fd) (hm : G.mg "_law_heard" = some (.ref g)) (hbd : Binds G.K fd ["ask"] []) (HB : HeardB pr G bs kh Nh nmh st gs) (hk : kh + 1 ≤ k)
    (hbody : ∀ (X' : Cx) (E : XK), Cz G bs (kh - 1) X' N scope.names (fun _ => false) → L2N.Takes X' (fun cls d _ H => E cls d H) → ZX X' (fun cls d _ H => E cls d H) body fb) (h1k : 1 ≤ kh) (ls : lamS0B nm scope = true := by decide +kernel)
    (hg : gOk nm "_law_heard" = true := by decide +kernel) (hdef : defaultsOf params X.env = ([], []) := by rfl)
    (hbind : ∀ (q : Str) (cl : List (Str × Addr)) (pm cv ctv : Value), bindArgs (PySem.W.kla_fn "<lambda>" q params body scope cl pm cv ctv) ⟨[], []⟩ = pure [] := by intros; rfl) :
    ZE X (.Call (.Name "_law_heard" p) [.Lambda params body scope lpos] [] pos) (fHeard pr Nh.length gs fb) := by
  have LS := lamS0_by ls
  have LS' := LS.sc c
  obtain ⟨b0, suite, p1, p2, p3, p4, p5, p6, p7, p8, p9, p10, p11, p12, p13, p14, p15, p16, p17, j1, j2, k1, k2, k3, hbs, hsu⟩ := HB.shape
  obtain ⟨oc, od, kV, doc, pm, an, cdv, ct, osl, rfl, lk, hcd⟩ := F.ex
  refine ⟨fun pins s σ H Q I h => ?_⟩
  obtain ⟨B, env, st0, d, st', hE, hS, hf, hQ⟩ := h
  refine wpAny_Call_Name_kw (ld_glob I (c.gl hg) (by rw [c.gm]; exact hm) ?_ (by decide +kernel))
  refine PySem.W.callWith_K (h₀ := X.base) I.ok.mod.kin (by rw [c.gK]; exact F.kp) ?_ (by rfl) (by rfl)
  show wpAny _ _ (spliced ((false, eval (.Lambda params body scope lpos) X.env) :: backTo pos (starEach [] X.env))) _ _ s
  refine Calls.spliced_cons (lam_made2 c L I hS hdef (LS'.has I.ok) fun f c' pm' ctv H1 s' I1 eH S1 hco nl nh hfo hfn hfr => ?_)
  refine Calls.spliced_nil ⟨I1.kIn, ?_⟩
  have lkX : X.K.lookup g = some ⟨oc, od, .func (PySem.W.fnOf "_law_heard" "_law_heard" (defArgs st) (defBody st) (defScope st) .none kV doc pm an cdv ct), osl⟩ := by rw [c.gK]; exact lk
  have hcdX : PySem.W.codeIn X.K cdv "_law_heard" = true := by rw [c.gK]; exact hcd
  have rc : codeAny (model X.prog X.w) X.A (.call (.ref g) ⟨[.ref f], []⟩) (CR CX0 X.stack X.prog X.w H1 s' Q E0) s' := by
    refine LamX.run_ofS (N := Nh) (ps := ["ask"]) (us := [.ref f]) (vs := [.ref f]) lkX hcdX HB.scope (c.rm.mono hk) I1.env0 (hbd s' [.ref f] (by rw [← c.gK]; exact I1.kIn) rfl) (.cons rfl .nil) rfl fun hr' => ?_
    have T' : ErrsT X.K X.mg A pr := by rw [c.gK, c.gm]; exact T
    have cz : Cz G bs kh (cxOf CX0 X.prog X.w X.K X.mg X.base Nh "_law_heard" (defScope st) g cdv X.A X.stack s' H1 E0).nox Nh nmh (fun _ => true) :=
      ⟨rfl, HB.scope.nd, HB.scope.kind, HB.names, rfl, rfl, hr', c.gd, c.bl, c.gp, c.gw, c.gK, c.gm, c.gb, PassesOwn.never⟩
    have czt : ∀ (pn : List (Addr × Obj)) (xe : Value → Shared → Prop), PassesOwn (model X.prog X.w) (X.A.deeper (envOfC "_law_heard" (defScope st) s'.heap.objs.size g cdv)) (envOfC "_law_heard" (defScope st) s'.heap.objs.size g cdv) xe →
        Cz G bs kh ((cxOf CX0 X.prog X.w X.K X.mg X.base Nh "_law_heard" (defScope st) g cdv X.A X.stack s' H1 E0).tr pn xe) Nh nmh (fun _ => true) := fun pn xe po =>
      ⟨rfl, HB.scope.nd, HB.scope.kind, HB.names, rfl, rfl, hr', c.gd, c.bl, c.gp, c.gw, c.gK, c.gm, c.gb, po⟩
    have hnm : ∀ y, (defScope st).names.lookup y = nmh.lookup y := fun y => by rw [HB.names]
    have loc1 : (defScope st).names.lookup ("found" : Str) = some .local := by rw [hnm]; exact HB.l1
    have loc2 : (defScope st).names.lookup ("e" : Str) = some .local := by rw [hnm]; exact HB.l2
    have loc0 : (defScope st).names.lookup ("ask" : Str) = some .local := by rw [hnm]; exact HB.l0
    rw [hbs]
    have s1 : PS (heardCx X Nh st g cdv s' H1).nox (.Assign [.Name "found" p1] (.Tuple [.Constant (.str "odd") j1 p2] k1 p3) p4) (tAsg (tOf X.K (fTup (fCons (fC (.str (Str.ofString "odd"))) fNil))) (gName 1)) :=
      ps_set HB.scope.nd HB.n1 (.inl loc1) (z_tup (z_cons z_str z_nil)) rfl (.inr loc1)
    have s3 : PS (heardCx X Nh st g cdv s' H1).nox (.Return (some (.Name "found" p16)) p17) (tRet (tVar 1)) := ps_ret (pe_var (i := 1) HB.n1 (.inl loc1) (by decide +kernel) (by decide +kernel))
    have s2 : PS (heardCx X Nh st g cdv s' H1).nox (.Try [.Assign [.Name "found" p5] (.Tuple [.Constant (.str "told") j2 p6, .Call (.Name "ask" p7) [] [] p8] k2 p9) p10]
        [.ExceptHandler (some (.Tuple [.Name "CountError" p11, .Name "LostError" p12] k3 p13)) (some "e") (b0 :: suite) p14] [] [] p15) (fun D σ1 H2 => tAsg (tTupK (tCons (tC (.str (Str.ofString "told"))) (tCons (tAsk X.K X.mg 0 f c' (X.env.qual ++ "<lambda>") σ fb (wAs2 X.K (.ref (A 10)) (.ref (A 11)) 2 (tSu pr G X.K A gs) D)) tNil))) (gName 1) D σ1 H2) :=
      ps_try2 (X := (heardCx X Nh st g cdv s' H1).nox) (i := 2) (n := "e") (c1 := .ref (A 10)) (c2 := .ref (A 11)) (tb := fun W => tAsg (tTupK (tCons (tC (.str (Str.ofString "told"))) (tCons (tAsk X.K X.mg 0 f c' (X.env.qual ++ "<lambda>") σ fb W) tNil))) (gName 1)) (ts := tSu pr G X.K A gs) rfl rfl HB.scope.nd HB.n2 loc2
          (cz.gl HB.g1) (by decide +kernel) (T'.mg 10 ⟨by decide, T.p10⟩) (cz.gl HB.g2) (by decide +kernel) (T'.mg 11 ⟨by decide, T.p11⟩)
          (fun W pn xe tk po => pss_one (ps_set HB.scope.nd HB.n1 (.inl loc1) (pe_tupK (pa_cons pe_str (pa_cons (pe_ask (CXg := CX0) (Eg := E0) (k := kh - 1) c I1 LS hfo hfn hfr (hbind _ _ _ _ _) tk (hr'.mono (by omega)) hbody HB.n0 (.inl loc0)) pa_nil))) rfl (.inr loc1)))
          (ps_su cz T hsu)
    refine ⟨_, (pss_cons s1 (pss_cons s2 (pss_one s3))).nox, ?_⟩
    have hl0 : (L2.start Nh [V.ref f]).length = Nh.length := by
      have h0 : 0 < Nh.length := (List.getElem?_eq_some_iff.mp HB.n0).1
      unfold L2.start
      rw [List.length_append, List.length_replicate, List.length_map]
      show 1 + (Nh.length - 1) = _
      omega
    have hE0 : RpE X.K B H1 (List.replicate Nh.length none) (L2.start Nh [V.ref f]) := ⟨by rw [List.length_replicate, hl0], fun i d e => by
      rw [List.getElem?_replicate] at e
      split at e <;> cases e⟩
    have hσ0 : (L2.start Nh [V.ref f])[0]? = some (some (V.ref f)) := rfl
    have len2 : 2 < Nh.length := (List.getElem?_eq_some_iff.mp HB.n2).1
    show tOf X.K (fTup (fCons (fC (.str (Str.ofString "odd"))) fNil)) (L2.start Nh [V.ref f]) H1 _
    refine ⟨B, List.replicate Nh.length none, st0, oddT, st0, hE0, S1, rfl, fun B2 H2 v x2 e2 S2 r2 => ?_⟩
    have hE2 := (hE0.mono x2.mo).set 1 r2
    show _ ∧ _ ∧ tX X.K X.mg _ fb σ H2 _
    refine ⟨by rw [List.getElem?_set_ne (by decide)]; exact hσ0, x2.mo.keep _ _ hco nl nh (fun ps z => LamX.codeO_ne ps z), B2, env, st0, hE.mono (eH.trans x2).mo, S2, ?_⟩
    unfold fHeard at hf
    cases hr : fb env st0 with
    | bad => rw [hr] at hf; cases hf
    | ok d1 s1 =>
      rw [hr] at hf
      intro B3 H3 v3 x3 e3 S3 r3
      refine ⟨len_line (by show 2 ≤ 16777216; decide), fun q o hp hd => ⟨.ref q, ?_, ?_⟩⟩
      · show ((L2.start Nh [V.ref f]).set 1 (some v) |>.set 1 (some (.ref q)))[1]? = _
        rw [List.getElem?_set_self (by rw [List.length_set, hl0]; omega)]
      · have hq := gc_ok hS hf hQ
        have xx := eH.trans (x2.trans x3)
        exact new_tup (ds := [.str (Str.ofString "told"), d1]) S3 (.cons (.str _) (.cons r3 .nil)) (fun B' H' u x4 e4 S4 r4 => hq B' H' u (xx.trans x4) (e4.trans (e3.trans e2)) S4 r4) hp hd
    | exc e s1 =>
      rw [hr] at hf
      intro B3 H3 cls dd0 x3 e3 S3 r3
      obtain ⟨cn, fs, C, dd, kvs, vs, rfl, h1, rfl, rfl, h4, h5, h6, h7, h8⟩ := r3
      obtain ⟨hc, hf⟩ := Rs.iff_ok hf
      rw [Bool.and_eq_true] at hc
      have h9 : cn < 9 := of_decide_eq_true hc.1
      have hp : pr cn = true := hc.2
      have hC : C = A cn := by
        have q2 := T'.mg cn ⟨by omega, hp⟩
        have q3 : tN cn = clsN cn := by
          unfold tN
          split
          · omega
          · omega
          · rfl
        rw [q3, h1] at q2
        exact Value.ref.inj (Option.some.inj q2)
      subst hC
      refine ⟨?_, fun a ha => ?_⟩
      · have q1 := (T'.kit (i := cn) (j := 10) ⟨by omega, hp⟩ ⟨by decide, T'.p10⟩).2.2
        have q2 := (T'.kit (i := cn) (j := 11) ⟨by omega, hp⟩ ⟨by decide, T'.p11⟩).2.2
        unfold exmAny exmAny exmAny
        rw [q1, q2]
        have : ∀ c, c < 9 → (subO c 10 || (subO c 11 || false)) = true := by decide
        exact congrArg some (this cn h9)
      · obtain ⟨ctt, s2, hg1, hg2⟩ := Rs.bind_ok (allX_ok hf a dd)
        refine ⟨cn, dd, h9, hp, rfl, rfl, B3, _, s1, ctt, s2, (hE2.mono x3.mo).set 2 (.xn (a := a) h4 h5 h6 h7 h8), S3, hg1, ?_⟩
        cases ctt with
        | next e5 =>
          have hg2 : (match e5[1]? with | some (some d) => gcZ st0.length d s2 | _ => .bad) = .ok d st' := hg2
          split at hg2
          · rename_i d5 he5
            have hq := gc_ok hS hg2 hQ
            intro B4 H4 σ4 x4 e4 S4 r4
            obtain ⟨v4, hv4, r5⟩ := r4.2 1 d5 he5
            refine ⟨v4, ?_, hq B4 H4 v4 ((eH.trans (x2.trans x3)).trans x4) (e4.trans (e3.trans e2)) S4 r5⟩
            show (σ4.set 2 none)[1]? = _
            rw [List.getElem?_set_ne (by decide)]
            exact hv4
          · cases hg2
        | ret d5 => cases hg2
        | brk d5 => cases hg2
        | cont d5 => cases hg2
  refine wpAny_call (codeAny_mono rc fun r s2 hq => ?_)
  cases r with
  | error e => exact (show False from hq).elim
  | ok fl =>
    cases fl with
    | ret u => exact I1.after hq
    | next => exact False.elim hq
    | brk => exact False.elim hq
    | cont => exact False.elim hq
end
end Z

/-! # Where an error is handled: places, in, count -/
namespace Z
open PySem PySem.Spec PyProof.Rows L2
section
variable {X : Cx}
theorem eqU_count {y : V} : ∀ {ys : List V} {us : List Value}, Vals ys us → ys.all flatV = true → us.countP (eqU y) = ys.countP fun z => eqV z y
  | _, _, .nil, _ => rfl
  | _, _, .cons r rr, h => by
    rw [List.all_cons, Bool.and_eq_true] at h
    rw [List.countP_cons, List.countP_cons, eqU_count rr h.2, eqU_of r h.1]
def rCountV (K : PySem.W.Frag) : V → List V → Hp → VK → Prop := fun x xs H Q => ∃ (a : Addr) (ys : List V) (y : V), x = V.ref a ∧ xs = [y] ∧ SqL K H a ys ∧ flatV y = true ∧ ys.all flatV = true ∧ Q (.int ((ys.countP fun z => eqV z y : Nat) : Int)) H
theorem mt_countV : MtR X "list.count" (rCountV X.K) := by
  intro pins s σ H x xs v us Q I rx rxs h
  obtain ⟨a, ys, y, rfl, rfl, hs, fy, fys, q⟩ := h
  cases rx
  cases rxs with
  | cons ry rt =>
    rename_i uy ut
    cases rt
    obtain ⟨its, rv, ⟨⟨cls, dd, data, sl⟩, n, ho, hc, hdn, hd⟩, hlen⟩ := I.list hs
    simp only at hc hd
    subst hc hd
    refine call_meets PySem.F.slot_list_count ⟨_, ho, rfl⟩ PySem.F.entry_list_count (PySem.F.args_list_count_2 _ _)
      (SeqAt.list_countAt a its.toArray n dd sl uy (eqU y)) ⟨ho, fun u' hu' => mem_eqAt ry fy rv fys u' (by simpa using hu'), ?_⟩
    have ec : its.toArray.toList.countP (eqU y) = ys.countP fun z => eqV z y := eqU_count rv fys
    refine ⟨.int ((ys.countP fun z => eqV z y : Nat) : Int), H, I.tok _, ⟨s.toks, ?_⟩, q⟩
    show Value.int ((its.toArray.toList.countP (eqU y) : Nat) : Int) s.toks = _
    rw [ec]
end
def gCountL (x : Dv) (xs : List Dv) (s : Sto) : Rs Dv := match xs with
  | [y] => match fV y, (seqOf s x).bind (·.mapM fV) with
    | some u, some us => Rs.iff (isL x s) (.ok (.int ((us.countP fun z => eqV z u : Nat) : Int)) s)
    | _, _ => .bad
  | _ => .bad
theorem mz_countL {K : PySem.W.Frag} : MtZ K (rCountV K) gCountL := by
  intro B H s x xs v vs d s' Q S r rs h q
  unfold gCountL at h
  split at h
  · split at h
    · rename_i u us e1 e2
      obtain ⟨hl, h⟩ := Rs.iff_ok h
      cases h
      obtain ⟨ds, e4, e5⟩ := Option.bind_eq_some_iff.mp e2
      cases rs with
      | cons r1 rr =>
        cases rr
        obtain ⟨rfl, f1⟩ := fV_of r1 e1
        obtain ⟨a, ws, rfl, hq, rr⟩ := seqL_of S r hl e4
        obtain ⟨rfl, f2⟩ := fVs_of rr e5
        exact ⟨a, ws, _, rfl, rfl, hq, f1, f2, q.same S (.int _)⟩
    · cases h
  · cases h
section
variable {X : Cx} {o a b e : Expr} {fo fa fb : Fn Dv} {fs : Fn (List Dv)} {apos cpos pos : Pos}
theorem z_countL (ho : ZE X o fo) (ha : ZA X [e] fs) (hbase : attributeBase o "count" X.env (eval o X.env) = eval o X.env := by rfl) (hline : (apos.endLine == cpos.line) = true := by rfl) (hs : starEach [e] X.env = (false, eval e X.env) :: starEach [] X.env := by rfl) :
    ZE X (.Call (.Attribute o "count" apos) [e] [] cpos) (fMt isL gCountL fo fs) :=
  pe_mono (pe_bm PySem.F.plainAttrs_list PySem.F.slot_list_count PySem.F.type_list_count mt_countV ho ha hbase (by rw [hs]; rfl) hline hs rfl) (mt_to ty_l mz_countL)
theorem zh_in (ha : ZE X a fa) (hb : ZE X b fb) (hm : behindInMarks .In b = false := by rfl) : ZE X (.Compare a [.In] [b] pos) (fBin gIn fa fb) := z_cmp (OpR.or op_in_str op_in_seq) oz_in ha hb hm
theorem zh_ix (ha : ZE X a fa) (hb : ZE X b fb) (hs : PlainIx b := by exact fun _ _ => rfl) : ZE X (.Subscript a b pos) (fBin gIxS fa fb) := by
  refine pe_mono (pe_ix ix_seq ha hb hs) fun σ H Q q => ?_
  obtain ⟨B, env, s, d, s', hE, hS, hf, hQ⟩ := q
  obtain ⟨x, s1, h1, hf⟩ := Rs.bind_ok hf
  obtain ⟨y, s2, h2, hf⟩ := Rs.bind_ok hf
  refine ⟨B, env, s, _, _, hE, hS, h1, fun B1 H1 v x1 e1 S1 r1 => ?_⟩
  refine ⟨B1, env, s1, _, _, hE.mono x1.mo, S1, h2, fun B2 H2 w x2 e2 S2 r2 => ?_⟩
  unfold gIxS at hf
  split at hf
  · split at hf
    · rename_i i d0 hd
      cases hf
      obtain ⟨ds, h3, h4⟩ := Option.bind_eq_some_iff.mp hd
      obtain ⟨p, xs, rfl, hq, rr⟩ := seq_of S2 (r1.mono x2.mo) h3
      obtain ⟨u, h5, ru⟩ := rps_atI rr h4
      cases r2
      have hQ := hQ B2 H2 u (x1.trans x2) (e2.trans e1) S2 ru
      rcases hq with hq | hq
      · exact .inl ⟨p, xs, _, u, rfl, rfl, hq, h5, hQ⟩
      · exact .inr (.inl ⟨p, xs, _, u, rfl, rfl, hq, h5, hQ⟩)
    · cases hf
  · cases hf
end
end Z

/-! # tuple * int, of any number from nought -/
namespace L2
open PySem PySem.Spec PyProof.Rows
end L2
namespace Z
open PySem PySem.Spec PyProof.Rows L2
def rMul1 (K : PySem.W.Frag) : R2 := fun x y H Q => ∃ l xs, x = .ref l ∧ y = .int 1 ∧ SqT K H l xs ∧ Q x H
def rMul0 (K : PySem.W.Frag) : R2 := fun x y H Q => ∃ l xs, x = .ref l ∧ y = .int 0 ∧ SqT K H l xs ∧ xs ≠ [] ∧ ∀ p o, H p = none → o.dict = none → Q (.ref p) (upd H p (.frz o (.tup [])))
def rTimesN (K : PySem.W.Frag) : R2 := fun x y H Q => rTimes K x y H Q ∨ rMul1 K x y H Q ∨ rMul0 K x y H Q
def gTimesN (x y : Dv) (s : Sto) : Rs Dv := match x, y with
  | .int i, .int j => Rs.iff (cMul i j) (.ok (.int (i * j)) s)
  | .tup ds, .int k => Rs.iff (!ds.isEmpty && decide (0 ≤ k) && decide (k ≤ 1000) && decide (ds.length ≤ 1000)) (.ok (.tup (List.replicate k.toNat ds).flatten) s)
  | _, _ => .bad
section
variable {X : Cx} {a b : Expr} {fa fb : Fn Dv} {pos : Pos}
end
end Z

/-! # xs.insert(i, y) -/
namespace Z
open PySem PySem.Spec PyProof.Rows L2
def rIns : V → List V → Hp → VK → Prop := fun x vs H Q => ∃ (l : Addr) (xs : List V) (i : Int) (y : V), x = .ref l ∧ vs = [.int i, y] ∧ H l = some (.lst xs) ∧ xs.length < sizeLine ∧ 0 ≤ i ∧ i < 2 ^ 63 ∧ Q .non (upd H l (.lst (xs.take i.toNat ++ [y] ++ xs.drop i.toNat)))
def gInsert (x : Dv) (xs : List Dv) (s : Sto) : Rs Dv := match x, xs with
  | .loc n, [.int i, d] => match s[n]? with
    | some (.lst ds) => Rs.iff (decide (ds.length < 16777216) && decide (0 ≤ i) && decide (i < 2 ^ 63)) (.ok .non (s.set n (.lst (ds.take i.toNat ++ [d] ++ ds.drop i.toNat))))
    | _ => .bad
  | _, _ => .bad
theorem mz_insert {K : PySem.W.Frag} : MtZ K rIns gInsert := by
  intro B H s x xs v vs d s' Q S r rs h q
  unfold gInsert at h
  split at h
  · split at h
    · rename_i ds e1
      obtain ⟨hz, h⟩ := Rs.iff_ok h
      rw [Bool.and_eq_true, Bool.and_eq_true, decide_eq_true_eq, decide_eq_true_eq, decide_eq_true_eq] at hz
      cases h
      obtain ⟨a, us, rfl, h1, h2, h3⟩ := loc_lst S r e1
      cases rs with
      | cons r1 rr =>
        cases r1
        cases rr with
        | cons r2 rn =>
          cases rn
          refine ⟨a, us, _, _, rfl, rfl, h2, ?_, hz.1.2, hz.2, put_lst S h1 (((h3.take _).append (.cons r2 .nil)).append (h3.drop _)) q .non⟩
          rw [← h3.length, sizeLine_eq]; exact hz.1.1
    · cases h
  · cases h
section
variable {X : Cx} {o e1 e2 : Expr} {fo : Fn Dv} {fs : Fn (List Dv)} {apos cpos : Pos}
theorem z_insert (ho : ZE X o fo) (ha : ZA X [e1, e2] fs) (hbase : attributeBase o "insert" X.env (eval o X.env) = eval o X.env := by rfl) (hline : (apos.endLine == cpos.line) = true := by rfl) (hs : starEach [e1, e2] X.env = (false, eval e1 X.env) :: starEach [e2] X.env := by rfl)
    (hfew : ((backTo cpos (starEach [e1, e2] X.env)).all (fun x => !x.1) && (backToKw cpos (keywordEach [] X.env)).all (fun x => x.1.isSome)
      && decide (([e1, e2] : List Expr).length + ([] : List Keyword).length + (if ([] : List Keyword).isEmpty then 0 else 1) < 30)) = true := by rfl) (hp : (backTo cpos (starEach [e2] X.env)).any (·.1) = false := by rfl) :
    ZE X (.Call (.Attribute o "insert" apos) [e1, e2] [] cpos) (fMt isL gInsert fo fs) :=
  pe_mono (pe_bm PySem.F.plainAttrs_list PySem.F.slot_list_insert PySem.F.type_list_insert mt_insert ho ha hbase hfew hline hs hp) (mt_to ty_l mz_insert)
end
end Z

namespace Z
open PySem PySem.Spec PyProof.Rows L2

/-! ### plain laws: what a reading ends in -/
/-- an end, or an error; E: what is asked of the error -/
def OkE {α : Type} (Ex : Dv → Sto → Prop) (r : Rs α) (P : α → Sto → Prop) : Prop := match r with
  | .ok a s => P a s
  | .exc e s => Ex e s
  | .bad => False
/-- no error -/
def nX : Dv → Sto → Prop := fun _ _ => False
abbrev Ok {α : Type} (r : Rs α) (P : α → Sto → Prop) : Prop := OkE nX r P
theorem OkE.get {α : Type} {r : Rs α} {P : α → Sto → Prop} (h : OkE nX r P) : ∃ a s, r = .ok a s ∧ P a s := by
  cases r with
  | ok a s => exact ⟨a, s, rfl, h⟩
  | _ => exact False.elim h
theorem Ok.get {α : Type} {r : Rs α} {P : α → Sto → Prop} (h : Ok r P) : ∃ a s, r = .ok a s ∧ P a s := OkE.get h
theorem OkE.of {α : Type} {E : Dv → Sto → Prop} {r : Rs α} {P : α → Sto → Prop} {a : α} {s : Sto} (h : r = .ok a s) (p : P a s) : OkE E r P := by rw [h]; exact p
theorem Ok.of {α : Type} {r : Rs α} {P : α → Sto → Prop} {a : α} {s : Sto} (h : r = .ok a s) (p : P a s) : Ok r P := OkE.of h p
theorem OkE.mono {α : Type} {E : Dv → Sto → Prop} {r : Rs α} {P Q : α → Sto → Prop} (h : OkE E r P) (hh : ∀ a s, P a s → Q a s) : OkE E r Q := by
  cases r with
  | ok a s => exact hh _ _ h
  | _ => exact h
theorem OkE.mono2 {α : Type} {E F : Dv → Sto → Prop} {r : Rs α} {P Q : α → Sto → Prop} (h : OkE E r P) (hh : ∀ a s, P a s → Q a s) (he : ∀ e s, E e s → F e s) : OkE F r Q := by
  cases r with
  | ok a s => exact hh _ _ h
  | exc e s => exact he _ _ h
  | bad => exact h
theorem Ok.mono {α : Type} {r : Rs α} {P Q : α → Sto → Prop} (h : Ok r P) (hh : ∀ a s, P a s → Q a s) : Ok r Q := OkE.mono h hh
/-- what raises nothing, where an error is asked of, too -/
theorem OkE.up {α : Type} {E : Dv → Sto → Prop} {r : Rs α} {P : α → Sto → Prop} (h : OkE nX r P) : OkE E r P := h.mono2 (fun _ _ h => h) fun _ _ h => False.elim h
variable {Ex : Dv → Sto → Prop}
section
variable {α β : Type} {a : α} {s : Sto} {P : α → Sto → Prop} {Q : β → Sto → Prop} {R : Ct → Sto → Prop} {T : Dv → Sto → Prop} {L : List Dv → Sto → Prop} {B : Bool → Sto → Prop} {env : En}
theorem ok_ok : OkE Ex (.ok a s) P ↔ P a s := Iff.rfl
theorem ok_bind {r : Rs α} {f : α → Sto → Rs β} : OkE Ex (r.bind f) Q ↔ OkE Ex r (fun a s => OkE Ex (f a s) Q) := by cases r <;> exact Iff.rfl
theorem ok_iff {c : Bool} {r : Rs α} : OkE Ex (Rs.iff c r) P ↔ c = true ∧ OkE Ex r P := by
  unfold Rs.iff
  split
  · rename_i h; exact ⟨fun x => ⟨h, x⟩, fun x => x.2⟩
  · rename_i h; exact ⟨fun x => False.elim x, fun x => absurd x.1 h⟩
def kDrop (env : En) (R : Ct → Sto → Prop) : Dv → Sto → Prop := fun d s1 => R (.next env) s1
theorem kDrop_ap {env : En} {R : Ct → Sto → Prop} {d : Dv} {s1 : Sto} : kDrop env R d s1 = (R (.next env) s1) := rfl
def kRet (R : Ct → Sto → Prop) : Dv → Sto → Prop := fun d s1 => R (.ret d) s1
theorem kRet_ap {R : Ct → Sto → Prop} {d : Dv} {s1 : Sto} : kRet R d s1 = (R (.ret d) s1) := rfl
def kSet (i : Nat) (env : En) (R : Ct → Sto → Prop) : Dv → Sto → Prop := fun d s1 => R (.next (env.set i (some d))) s1
theorem kSet_ap {i : Nat} {env : En} {R : Ct → Sto → Prop} {d : Dv} {s1 : Sto} : kSet i env R d s1 = (R (.next (env.set i (some d))) s1) := rfl
def kCons2 (d : Dv) (L : List Dv → Sto → Prop) : List Dv → Sto → Prop := fun ds s2 => L (d :: ds) s2
theorem kCons2_ap {d : Dv} {L : List Dv → Sto → Prop} {ds : List Dv} {s2 : Sto} : kCons2 d L ds s2 = (L (d :: ds) s2) := rfl
def kCons (Ex : Dv → Sto → Prop) (g : Fn (List Dv)) (env : En) (L : List Dv → Sto → Prop) : Dv → Sto → Prop := fun d s1 => OkE Ex (g env s1) (kCons2 d L)
theorem kCons_ap {g : Fn (List Dv)} {env : En} {L : List Dv → Sto → Prop} {d : Dv} {s1 : Sto} : kCons Ex g env L d s1 = (OkE Ex (g env s1) (kCons2 d L)) := rfl
def kTup (T : Dv → Sto → Prop) : List Dv → Sto → Prop := fun ds s1 => decide (ds.length ≤ 16777216) = true ∧ T (.tup ds) s1
theorem kTup_ap {T : Dv → Sto → Prop} {ds : List Dv} {s1 : Sto} : kTup T ds s1 = (decide (ds.length ≤ 16777216) = true ∧ T (.tup ds) s1) := rfl
def kLst (L : List Dv → Sto → Prop) : List Dv → Sto → Prop := fun ds s1 => decide (ds.length ≤ 16777216) = true ∧ L ds s1
theorem kLst_ap {L : List Dv → Sto → Prop} {ds : List Dv} {s1 : Sto} : kLst L ds s1 = (decide (ds.length ≤ 16777216) = true ∧ L ds s1) := rfl
def kVal (T : Dv → Sto → Prop) : List Dv → Sto → Prop := fun ds s1 => T (.ls ds) s1
theorem kVal_ap {T : Dv → Sto → Prop} {ds : List Dv} {s1 : Sto} : kVal T ds s1 = (T (.ls ds) s1) := rfl
def kNew (T : Dv → Sto → Prop) : List Dv → Sto → Prop := fun ds s1 => T (.loc s1.length) (s1 ++ [.lst ds])
theorem kNew_ap {T : Dv → Sto → Prop} {ds : List Dv} {s1 : Sto} : kNew T ds s1 = (T (.loc s1.length) (s1 ++ [.lst ds])) := rfl
def kBin2 (Ex : Dv → Sto → Prop) (g : Dv → Dv → Sto → Rs Dv) (x : Dv) (T : Dv → Sto → Prop) : Dv → Sto → Prop := fun y s2 => OkE Ex (g x y s2) T
theorem kBin2_ap {g : Dv → Dv → Sto → Rs Dv} {x : Dv} {T : Dv → Sto → Prop} {y : Dv} {s2 : Sto} : kBin2 Ex g x T y s2 = (OkE Ex (g x y s2) T) := rfl
def kBin (Ex : Dv → Sto → Prop) (g : Dv → Dv → Sto → Rs Dv) (f2 : Fn Dv) (env : En) (T : Dv → Sto → Prop) : Dv → Sto → Prop := fun x s1 => OkE Ex (f2 env s1) (kBin2 Ex g x T)
theorem kBin_ap {g : Dv → Dv → Sto → Rs Dv} {f2 : Fn Dv} {env : En} {T : Dv → Sto → Prop} {x : Dv} {s1 : Sto} : kBin Ex g f2 env T x s1 = (OkE Ex (f2 env s1) (kBin2 Ex g x T)) := rfl
def kUn (Ex : Dv → Sto → Prop) (g : Dv → Sto → Rs Dv) (T : Dv → Sto → Prop) : Dv → Sto → Prop := fun x s1 => OkE Ex (g x s1) T
theorem kUn_ap {g : Dv → Sto → Rs Dv} {T : Dv → Sto → Prop} {x : Dv} {s1 : Sto} : kUn Ex g T x s1 = (OkE Ex (g x s1) T) := rfl
def kCall (Ex : Dv → Sto → Prop) (φ : Phi) (T : Dv → Sto → Prop) : List Dv → Sto → Prop := fun ds s1 => OkE Ex (φ ds s1) T
theorem kCall_ap {φ : Phi} {T : Dv → Sto → Prop} {ds : List Dv} {s1 : Sto} : kCall Ex φ T ds s1 = (OkE Ex (φ ds s1) T) := rfl
def kCallL (Ex : Dv → Sto → Prop) (φ : List Dv → Sto → Rs (List Dv)) (L : List Dv → Sto → Prop) : List Dv → Sto → Prop := fun ds s1 => OkE Ex (φ ds s1) L
theorem kCallL_ap {φ : List Dv → Sto → Rs (List Dv)} {L : List Dv → Sto → Prop} {ds : List Dv} {s1 : Sto} : kCallL Ex φ L ds s1 = (OkE Ex (φ ds s1) L) := rfl
def kNotT (B : Bool → Sto → Prop) : Bool → Sto → Prop := fun b s1 => B (!b) s1
theorem kNotT_ap {B : Bool → Sto → Prop} {b : Bool} {s1 : Sto} : kNotT B b s1 = (B (!b) s1) := rfl
def kAndT (Ex : Dv → Sto → Prop) (g : Fn Bool) (env : En) (B : Bool → Sto → Prop) : Bool → Sto → Prop := fun b s1 => if b = true then OkE Ex (g env s1) B else B false s1
theorem kAndT_ap {g : Fn Bool} {env : En} {B : Bool → Sto → Prop} {b : Bool} {s1 : Sto} : kAndT Ex g env B b s1 = (if b = true then OkE Ex (g env s1) B else B false s1) := rfl
def kOrT (Ex : Dv → Sto → Prop) (g : Fn Bool) (env : En) (B : Bool → Sto → Prop) : Bool → Sto → Prop := fun b s1 => if b = true then B true s1 else OkE Ex (g env s1) B
theorem kOrT_ap {g : Fn Bool} {env : En} {B : Bool → Sto → Prop} {b : Bool} {s1 : Sto} : kOrT Ex g env B b s1 = (if b = true then B true s1 else OkE Ex (g env s1) B) := rfl
def kIf (Ex : Dv → Sto → Prop) (f g : Fn Dv) (env : En) (T : Dv → Sto → Prop) : Bool → Sto → Prop := fun b s1 => if b = true then OkE Ex (f env s1) T else OkE Ex (g env s1) T
theorem kIf_ap {f g : Fn Dv} {env : En} {T : Dv → Sto → Prop} {b : Bool} {s1 : Sto} : kIf Ex f g env T b s1 = (if b = true then OkE Ex (f env s1) T else OkE Ex (g env s1) T) := rfl
def kIfS (Ex : Dv → Sto → Prop) (f g : Fn Ct) (env : En) (R : Ct → Sto → Prop) : Bool → Sto → Prop := fun b s1 => if b = true then OkE Ex (f env s1) R else OkE Ex (g env s1) R
theorem kIfS_ap {f g : Fn Ct} {env : En} {R : Ct → Sto → Prop} {b : Bool} {s1 : Sto} : kIfS Ex f g env R b s1 = (if b = true then OkE Ex (f env s1) R else OkE Ex (g env s1) R) := rfl
def kAnd (Ex : Dv → Sto → Prop) (g : Fn Dv) (env : En) (T : Dv → Sto → Prop) : Bool → Sto → Prop := fun b s1 => if b = true then OkE Ex (g env s1) T else T (.bl false) s1
theorem kAnd_ap {g : Fn Dv} {env : En} {T : Dv → Sto → Prop} {b : Bool} {s1 : Sto} : kAnd Ex g env T b s1 = (if b = true then OkE Ex (g env s1) T else T (.bl false) s1) := rfl
def kOr (Ex : Dv → Sto → Prop) (g : Fn Dv) (env : En) (T : Dv → Sto → Prop) : Bool → Sto → Prop := fun b s1 => if b = true then T (.bl true) s1 else OkE Ex (g env s1) T
theorem kOr_ap {g : Fn Dv} {env : En} {T : Dv → Sto → Prop} {b : Bool} {s1 : Sto} : kOr Ex g env T b s1 = (if b = true then T (.bl true) s1 else OkE Ex (g env s1) T) := rfl
def kNot (T : Dv → Sto → Prop) : Bool → Sto → Prop := fun b s1 => T (.bl (!b)) s1
theorem kNot_ap {T : Dv → Sto → Prop} {b : Bool} {s1 : Sto} : kNot T b s1 = (T (.bl (!b)) s1) := rfl
def kMt2 (Ex : Dv → Sto → Prop) (g : Dv → List Dv → Sto → Rs Dv) (x : Dv) (T : Dv → Sto → Prop) : List Dv → Sto → Prop := fun xs s2 => OkE Ex (g x xs s2) T
theorem kMt2_ap {g : Dv → List Dv → Sto → Rs Dv} {x : Dv} {T : Dv → Sto → Prop} {xs : List Dv} {s2 : Sto} : kMt2 Ex g x T xs s2 = (OkE Ex (g x xs s2) T) := rfl
def kMt (Ex : Dv → Sto → Prop) (ty : Dv → Sto → Bool) (g : Dv → List Dv → Sto → Rs Dv) (fs : Fn (List Dv)) (env : En) (T : Dv → Sto → Prop) : Dv → Sto → Prop := fun x s1 => ty x s1 = true ∧ OkE Ex (fs env s1) (kMt2 Ex g x T)
theorem kMt_ap {ty : Dv → Sto → Bool} {g : Dv → List Dv → Sto → Rs Dv} {fs : Fn (List Dv)} {env : En} {T : Dv → Sto → Prop} {x : Dv} {s1 : Sto} : kMt Ex ty g fs env T x s1 = (ty x s1 = true ∧ OkE Ex (fs env s1) (kMt2 Ex g x T)) := rfl
def kPut4 (env : En) (R : Ct → Sto → Prop) : Unit → Sto → Prop := fun u s4 => R (.next env) s4
theorem kPut4_ap {env : En} {R : Ct → Sto → Prop} {u : Unit} {s4 : Sto} : kPut4 env R u s4 = (R (.next env) s4) := rfl
def kPut3 (Ex : Dv → Sto → Prop) (x d : Dv) (env : En) (R : Ct → Sto → Prop) : Dv → Sto → Prop := fun y s3 => OkE Ex (gPut x y d s3) (kPut4 env R)
theorem kPut3_ap {x d : Dv} {env : En} {R : Ct → Sto → Prop} {y : Dv} {s3 : Sto} : kPut3 Ex x d env R y s3 = (OkE Ex (gPut x y d s3) (kPut4 env R)) := rfl
def kPut2 (Ex : Dv → Sto → Prop) (fi : Fn Dv) (d : Dv) (env : En) (R : Ct → Sto → Prop) : Dv → Sto → Prop := fun x s2 => OkE Ex (fi env s2) (kPut3 Ex x d env R)
theorem kPut2_ap {fi : Fn Dv} {d : Dv} {env : En} {R : Ct → Sto → Prop} {x : Dv} {s2 : Sto} : kPut2 Ex fi d env R x s2 = (OkE Ex (fi env s2) (kPut3 Ex x d env R)) := rfl
def kPut (Ex : Dv → Sto → Prop) (fo fi : Fn Dv) (env : En) (R : Ct → Sto → Prop) : Dv → Sto → Prop := fun d s1 => OkE Ex (fo env s1) (kPut2 Ex fi d env R)
theorem kPut_ap {fo fi : Fn Dv} {env : En} {R : Ct → Sto → Prop} {d : Dv} {s1 : Sto} : kPut Ex fo fi env R d s1 = (OkE Ex (fo env s1) (kPut2 Ex fi d env R)) := rfl
def kExt2 (Ex : Dv → Sto → Prop) (x : Dv) (T : Dv → Sto → Prop) : List Dv → Sto → Prop := fun es s2 => OkE Ex (gExtend x [.ls es] s2) T
theorem kExt2_ap {x : Dv} {T : Dv → Sto → Prop} {es : List Dv} {s2 : Sto} : kExt2 Ex x T es s2 = (OkE Ex (gExtend x [.ls es] s2) T) := rfl
def kExt (Ex : Dv → Sto → Prop) (fl : Fn (List Dv)) (env : En) (T : Dv → Sto → Prop) : Dv → Sto → Prop := fun x s1 => isL x s1 = true ∧ OkE Ex (fl env s1) (kExt2 Ex x T)
theorem kExt_ap {fl : Fn (List Dv)} {env : En} {T : Dv → Sto → Prop} {x : Dv} {s1 : Sto} : kExt Ex fl env T x s1 = (isL x s1 = true ∧ OkE Ex (fl env s1) (kExt2 Ex x T)) := rfl
def kAsg2 (R : Ct → Sto → Prop) : En → Sto → Prop := fun env1 s2 => R (.next env1) s2
theorem kAsg2_ap {R : Ct → Sto → Prop} {env1 : En} {s2 : Sto} : kAsg2 R env1 s2 = (R (.next env1) s2) := rfl
def kAsg (Ex : Dv → Sto → Prop) (g : Dv → Fn En) (env : En) (R : Ct → Sto → Prop) : Dv → Sto → Prop := fun d s1 => OkE Ex (g d env s1) (kAsg2 R)
theorem kAsg_ap {g : Dv → Fn En} {env : En} {R : Ct → Sto → Prop} {d : Dv} {s1 : Sto} : kAsg Ex g env R d s1 = (OkE Ex (g d env s1) (kAsg2 R)) := rfl
def kFor (Ex : Dv → Sto → Prop) (g : Dv → Fn En) (b : Fn Ct) (env : En) (R : Ct → Sto → Prop) : Src → Sto → Prop := fun src s1 => OkE Ex (loopZ src.2 g b src.1 env s1) R
theorem kFor_ap {g : Dv → Fn En} {b : Fn Ct} {env : En} {R : Ct → Sto → Prop} {src : Src} {s1 : Sto} : kFor Ex g b env R src s1 = (OkE Ex (loopZ src.2 g b src.1 env s1) R) := rfl
def kLc (Ex : Dv → Sto → Prop) (own : List Nat) (g : Dv → Fn En) (tt : Fn Bool) (te : Fn Dv) (env : En) (L : List Dv → Sto → Prop) : Src → Sto → Prop := fun src s1 => decide (src.1.length < 16777216) = true ∧ OkE Ex (lcZ src.2 own g tt te src.1 env s1) L
theorem kLc_ap {own : List Nat} {g : Dv → Fn En} {tt : Fn Bool} {te : Fn Dv} {env : En} {L : List Dv → Sto → Prop} {src : Src} {s1 : Sto} : kLc Ex own g tt te env L src s1 = (decide (src.1.length < 16777216) = true ∧ OkE Ex (lcZ src.2 own g tt te src.1 env s1) L) := rfl
def kSl3 (Ex : Dv → Sto → Prop) (x : Dv) (lo : Option Int) (T : Dv → Sto → Prop) : Option Int → Sto → Prop := fun hi s3 => OkE Ex (gSl x lo hi s3) T
theorem kSl3_ap {x : Dv} {lo : Option Int} {T : Dv → Sto → Prop} {hi : Option Int} {s3 : Sto} : kSl3 Ex x lo T hi s3 = (OkE Ex (gSl x lo hi s3) T) := rfl
def kSl2 (Ex : Dv → Sto → Prop) (x : Dv) (h : Fn (Option Int)) (env : En) (T : Dv → Sto → Prop) : Option Int → Sto → Prop := fun lo s2 => OkE Ex (h env s2) (kSl3 Ex x lo T)
theorem kSl2_ap {x : Dv} {h : Fn (Option Int)} {env : En} {T : Dv → Sto → Prop} {lo : Option Int} {s2 : Sto} : kSl2 Ex x h env T lo s2 = (OkE Ex (h env s2) (kSl3 Ex x lo T)) := rfl
def kSl (Ex : Dv → Sto → Prop) (l h : Fn (Option Int)) (env : En) (T : Dv → Sto → Prop) : Dv → Sto → Prop := fun x s1 => OkE Ex (l env s1) (kSl2 Ex x h env T)
theorem kSl_ap {l h : Fn (Option Int)} {env : En} {T : Dv → Sto → Prop} {x : Dv} {s1 : Sto} : kSl Ex l h env T x s1 = (OkE Ex (l env s1) (kSl2 Ex x h env T)) := rfl
def kGs (Ex : Dv → Sto → Prop) (h : List Dv → Fn En) (r : List Dv) (E : En → Sto → Prop) : En → Sto → Prop := fun env1 s1 => OkE Ex (h r env1 s1) E
theorem kGs_ap {h : List Dv → Fn En} {r : List Dv} {E : En → Sto → Prop} {env1 : En} {s1 : Sto} : kGs Ex h r E env1 s1 = (OkE Ex (h r env1 s1) E) := rfl
/-- behind a statement -/
def sq (Ex : Dv → Sto → Prop) (g : Fn Ct) (R : Ct → Sto → Prop) : Ct → Sto → Prop
  | .next e, s => OkE Ex (g e s) R
  | c, s => R c s
theorem sq_next {g : Fn Ct} : sq Ex g R (.next env) s = OkE Ex (g env s) R := rfl
theorem sq_ret {g : Fn Ct} {d : Dv} : sq Ex g R (.ret d) s = R (.ret d) s := rfl
theorem sq_brk {g : Fn Ct} : sq Ex g R (.brk env) s = R (.brk env) s := rfl
theorem sq_cont {g : Fn Ct} : sq Ex g R (.cont env) s = R (.cont env) s := rfl
theorem ok_seq {f g : Fn Ct} : OkE Ex (fSeq f g env s) R ↔ OkE Ex (f env s) (sq Ex g R) := by
  unfold fSeq
  rw [ok_bind]
  cases f env s with
  | ok c s1 => cases c <;> exact Iff.rfl
  | _ => exact Iff.rfl
theorem ok_nop : OkE Ex (fNop env s) R ↔ R (.next env) s := Iff.rfl
theorem ok_brk : OkE Ex (fBrk env s) R ↔ R (.brk env) s := Iff.rfl
theorem ok_cont : OkE Ex (fCont env s) R ↔ R (.cont env) s := Iff.rfl
theorem ok_drop {f : Fn Dv} : OkE Ex (fDrop f env s) R ↔ OkE Ex (f env s) (kDrop env R) := ok_bind
theorem ok_ret {f : Fn Dv} : OkE Ex (fRet f env s) R ↔ OkE Ex (f env s) (kRet R) := ok_bind
theorem ok_retN : OkE Ex (fRetN env s) R ↔ R (.ret .non) s := Iff.rfl
theorem ok_set {i : Nat} {f : Fn Dv} : OkE Ex (fSet i f env s) R ↔ OkE Ex (f env s) (kSet i env R) := ok_bind
theorem ok_var0 {d : Dv} {r : En} : OkE Ex (fVar 0 (some d :: r) s) T ↔ T d s := Iff.rfl
theorem ok_varS {i : Nat} {x : Option Dv} {r : En} : OkE Ex (fVar (i + 1) (x :: r) s) T ↔ OkE Ex (fVar i r s) T := by
  unfold fVar; simp only [List.getElem?_cons_succ]
theorem ok_c {d : Dv} : OkE Ex (fC d env s) T ↔ T d s := Iff.rfl
theorem ok_nil : OkE Ex (fNil env s) L ↔ L [] s := Iff.rfl
theorem ok_cons {f : Fn Dv} {g : Fn (List Dv)} : OkE Ex (fCons f g env s) L ↔ OkE Ex (f env s) (kCons Ex g env L) := by
  unfold fCons; rw [ok_bind]
  refine ⟨fun h => h.mono fun _ _ h => ok_bind.mp h, fun h => h.mono fun _ _ h => ok_bind.mpr h⟩
theorem ok_tup {f : Fn (List Dv)} : OkE Ex (fTup f env s) T ↔ OkE Ex (f env s) (kTup T) := by
  unfold fTup; rw [ok_bind]
  exact ⟨fun h => h.mono fun _ _ h => ok_iff.mp h, fun h => h.mono fun _ _ h => ok_iff.mpr h⟩
theorem ok_lst {f : Fn (List Dv)} : OkE Ex (fLst f env s) L ↔ OkE Ex (f env s) (kLst L) := by
  unfold fLst; rw [ok_bind]
  exact ⟨fun h => h.mono fun _ _ h => ok_iff.mp h, fun h => h.mono fun _ _ h => ok_iff.mpr h⟩
theorem ok_val {f : Fn (List Dv)} : OkE Ex (fVal f env s) T ↔ OkE Ex (f env s) (kVal T) := ok_bind
theorem ok_new {f : Fn (List Dv)} : OkE Ex (fNew f env s) T ↔ OkE Ex (f env s) (kNew T) := ok_bind
theorem ok_bin {g : Dv → Dv → Sto → Rs Dv} {f1 f2 : Fn Dv} : OkE Ex (fBin g f1 f2 env s) T ↔ OkE Ex (f1 env s) (kBin Ex g f2 env T) := by
  unfold fBin; rw [ok_bind]
  refine ⟨fun h => h.mono fun _ _ h => ok_bind.mp h, fun h => h.mono fun _ _ h => ok_bind.mpr h⟩
theorem ok_un {g : Dv → Sto → Rs Dv} {f1 : Fn Dv} : OkE Ex (fUn g f1 env s) T ↔ OkE Ex (f1 env s) (kUn Ex g T) := ok_bind
theorem ok_call {φ : Phi} {f : Fn (List Dv)} : OkE Ex (fCall φ f env s) T ↔ OkE Ex (f env s) (kCall Ex φ T) := ok_bind
theorem ok_callL {φ : List Dv → Sto → Rs (List Dv)} {f : Fn (List Dv)} : OkE Ex (fCallL φ f env s) L ↔ OkE Ex (f env s) (kCallL Ex φ L) := ok_bind
/-- a truth -/
def tst (B : Bool → Sto → Prop) : Dv → Sto → Prop
  | .bl b, s => B b s
  | _, _ => False
theorem tst_bl {b : Bool} : tst B (.bl b) s = B b s := rfl
theorem ok_test {f : Fn Dv} : OkE Ex (fTest f env s) B ↔ OkE Ex (f env s) (tst B) := by
  unfold fTest; rw [ok_bind]
  cases f env s with
  | ok c s1 => cases c <;> exact Iff.rfl
  | _ => exact Iff.rfl
theorem ok_notT {f : Fn Bool} : OkE Ex (fNotT f env s) B ↔ OkE Ex (f env s) (kNotT B) := ok_bind
theorem ok_andT {f g : Fn Bool} : OkE Ex (fAndT f g env s) B ↔ OkE Ex (f env s) (kAndT Ex g env B) := by
  unfold fAndT; rw [ok_bind]
  refine ⟨fun h => h.mono fun b _ h => ?_, fun h => h.mono fun b _ h => ?_⟩ <;> cases b <;> exact h
theorem ok_orT {f g : Fn Bool} : OkE Ex (fOrT f g env s) B ↔ OkE Ex (f env s) (kOrT Ex g env B) := by
  unfold fOrT; rw [ok_bind]
  refine ⟨fun h => h.mono fun b _ h => ?_, fun h => h.mono fun b _ h => ?_⟩ <;> cases b <;> exact h
theorem ok_if {t : Fn Bool} {f g : Fn Dv} : OkE Ex (fIf t f g env s) T ↔ OkE Ex (t env s) (kIf Ex f g env T) := by
  unfold fIf; rw [ok_bind]
  refine ⟨fun h => h.mono fun b _ h => ?_, fun h => h.mono fun b _ h => ?_⟩ <;> cases b <;> exact h
theorem ok_ifS {t : Fn Bool} {f g : Fn Ct} : OkE Ex (fIfS t f g env s) R ↔ OkE Ex (t env s) (kIfS Ex f g env R) := by
  unfold fIfS; rw [ok_bind]
  refine ⟨fun h => h.mono fun b _ h => ?_, fun h => h.mono fun b _ h => ?_⟩ <;> cases b <;> exact h
theorem ok_and {f g : Fn Dv} : OkE Ex (fAnd f g env s) T ↔ OkE Ex (fTest f env s) (kAnd Ex g env T) := by
  unfold fAnd; rw [ok_bind]
  refine ⟨fun h => h.mono fun b _ h => ?_, fun h => h.mono fun b _ h => ?_⟩ <;> cases b <;> exact h
theorem ok_or {f g : Fn Dv} : OkE Ex (fOr f g env s) T ↔ OkE Ex (fTest f env s) (kOr Ex g env T) := by
  unfold fOr; rw [ok_bind]
  refine ⟨fun h => h.mono fun b _ h => ?_, fun h => h.mono fun b _ h => ?_⟩ <;> cases b <;> exact h
theorem ok_not {f : Fn Dv} : OkE Ex (fNot f env s) T ↔ OkE Ex (fTest f env s) (kNot T) := ok_bind
theorem ok_mt {ty : Dv → Sto → Bool} {g : Dv → List Dv → Sto → Rs Dv} {fo : Fn Dv} {fs : Fn (List Dv)} : OkE Ex (fMt ty g fo fs env s) T ↔ OkE Ex (fo env s) (kMt Ex ty g fs env T) := by
  unfold fMt; rw [ok_bind]
  refine ⟨fun h => h.mono fun _ _ h => ?_, fun h => h.mono fun _ _ h => ?_⟩
  · rw [ok_iff, ok_bind] at h; exact h
  · rw [ok_iff, ok_bind]; exact h
theorem ok_put {fo fi fv : Fn Dv} : OkE Ex (fPut fo fi fv env s) R ↔ OkE Ex (fv env s) (kPut Ex fo fi env R) := by
  unfold fPut; rw [ok_bind]
  refine ⟨fun h => h.mono fun _ _ h => (ok_bind.mp h).mono fun _ _ h => (ok_bind.mp h).mono fun _ _ h => ok_bind.mp h, fun h => h.mono fun _ _ h => ok_bind.mpr (h.mono fun _ _ h => ok_bind.mpr (h.mono fun _ _ h => ok_bind.mpr h))⟩
theorem ok_extend {fo : Fn Dv} {fl : Fn (List Dv)} : OkE Ex (fExtend fo fl env s) T ↔ OkE Ex (fo env s) (kExt Ex fl env T) := by
  unfold fExtend; rw [ok_bind]
  refine ⟨fun h => h.mono fun _ _ h => ?_, fun h => h.mono fun _ _ h => ?_⟩
  · rw [ok_iff, ok_bind] at h; exact h
  · rw [ok_iff, ok_bind]; exact h
/-- both hands of a parallel assignment -/
def pr2 (i j : Nat) (env : En) (R : Ct → Sto → Prop) : List Dv → Sto → Prop := fun ds s => match ds with
  | [d, e] => R (.next ((env.set i (some d)).set j (some e))) s
  | _ => False
theorem pr2_mk {i j : Nat} {d e : Dv} : pr2 i j env R [d, e] s = R (.next ((env.set i (some d)).set j (some e))) s := rfl
theorem ok_par2 {i j : Nat} {f : Fn (List Dv)} : OkE Ex (fPar2 i j f env s) R ↔ OkE Ex (f env s) (pr2 i j env R) := by
  unfold fPar2; rw [ok_bind]
  cases f env s with
  | ok ds s1 =>
    show OkE Ex (match ds with | [d, e] => _ | _ => _) R ↔ pr2 i j env R ds s1
    unfold pr2
    split <;> exact Iff.rfl
  | _ => exact Iff.rfl
theorem ok_asg {f : Fn Dv} {g : Dv → Fn En} : OkE Ex (fAsg f g env s) R ↔ OkE Ex (f env s) (kAsg Ex g env R) := by
  unfold fAsg; rw [ok_bind]
  refine ⟨fun h => h.mono fun _ _ h => ok_bind.mp h, fun h => h.mono fun _ _ h => ok_bind.mpr h⟩
theorem ok_for {fi : Fn Src} {g : Dv → Fn En} {b : Fn Ct} : OkE Ex (fFor fi g b env s) R ↔ OkE Ex (fi env s) (kFor Ex g b env R) := ok_bind
theorem ok_lc {fi : Fn Src} {own : List Nat} {g : Dv → Fn En} {tt : Fn Bool} {te : Fn Dv} : OkE Ex (fLc fi own g tt te env s) L ↔ OkE Ex (fi env s) (kLc Ex own g tt te env L) := by
  unfold fLc; rw [ok_bind]
  exact ⟨fun h => h.mono fun _ _ h => ok_iff.mp h, fun h => h.mono fun _ _ h => ok_iff.mpr h⟩
theorem ok_yes : OkE Ex (fYes env s) B ↔ B true s := Iff.rfl
theorem ok_noPart {O : Option Int → Sto → Prop} : OkE Ex (fNoPart env s) O ↔ O none s := Iff.rfl
def prt (O : Option Int → Sto → Prop) : Dv → Sto → Prop
  | .int i, s => O (some i) s
  | _, _ => False
theorem prt_int {O : Option Int → Sto → Prop} {i : Int} : prt O (.int i) s = O (some i) s := rfl
theorem ok_part {O : Option Int → Sto → Prop} {f : Fn Dv} : OkE Ex (fPart f env s) O ↔ OkE Ex (f env s) (prt O) := by
  unfold fPart; rw [ok_bind]
  cases f env s with
  | ok c s1 => cases c <;> exact Iff.rfl
  | _ => exact Iff.rfl
theorem ok_sl {f : Fn Dv} {l h : Fn (Option Int)} : OkE Ex (fSl f l h env s) T ↔ OkE Ex (f env s) (kSl Ex l h env T) := by
  unfold fSl; rw [ok_bind]
  refine ⟨fun h => h.mono fun _ _ h => (ok_bind.mp h).mono fun _ _ h => ok_bind.mp h, fun h => h.mono fun _ _ h => ok_bind.mpr (h.mono fun _ _ h => ok_bind.mpr h)⟩
theorem ok_gNm {i : Nat} {d : Dv} {E : En → Sto → Prop} : OkE Ex (gNm i d env s) E ↔ E (env.set i (some d)) s := Iff.rfl
theorem ok_gTp {n : Nat} {h : List Dv → Fn En} {ds : List Dv} {E : En → Sto → Prop} : OkE Ex (gTp n h (.tup ds) env s) E ↔ (ds.length == n) = true ∧ OkE Ex (h ds env s) E := ok_iff
theorem ok_gsN {E : En → Sto → Prop} : OkE Ex (gsNil [] env s) E ↔ E env s := Iff.rfl
theorem ok_gsC {g : Dv → Fn En} {h : List Dv → Fn En} {d : Dv} {r : List Dv} {E : En → Sto → Prop} : OkE Ex (gsCons g h (d :: r) env s) E ↔ OkE Ex (g d env s) (kGs Ex h r E) := ok_bind
/-- behind a range's bound -/
def rg1 (S : Src → Sto → Prop) : List Dv → Sto → Prop := fun ds s => match ds with
  | [.int j] => inRng j = true ∧ S (rngD 0 j.toNat, noChk) s
  | _ => False
def rg2 (S : Src → Sto → Prop) : List Dv → Sto → Prop := fun ds s => match ds with
  | [.int i, .int j] => (inRng i && inRng j) = true ∧ S (rngD i (j - i).toNat, noChk) s
  | _ => False
theorem rg1_mk {S : Src → Sto → Prop} {j : Int} : rg1 S [.int j] s = (inRng j = true ∧ S (rngD 0 j.toNat, noChk) s) := rfl
theorem rg2_mk {S : Src → Sto → Prop} {i j : Int} : rg2 S [.int i, .int j] s = ((inRng i && inRng j) = true ∧ S (rngD i (j - i).toNat, noChk) s) := rfl
theorem ok_rng1 {S : Src → Sto → Prop} {f : Fn (List Dv)} : OkE Ex (fRng1 f env s) S ↔ OkE Ex (f env s) (rg1 S) := by
  unfold fRng1; rw [ok_bind]
  cases f env s with
  | ok ds s1 =>
    show OkE Ex (match ds with | [.int j] => _ | _ => _) S ↔ rg1 S ds s1
    unfold rg1
    split
    · exact ok_iff
    · exact Iff.rfl
  | _ => exact Iff.rfl
theorem ok_rng2 {S : Src → Sto → Prop} {f : Fn (List Dv)} : OkE Ex (fRng2 f env s) S ↔ OkE Ex (f env s) (rg2 S) := by
  unfold fRng2; rw [ok_bind]
  cases f env s with
  | ok ds s1 =>
    show OkE Ex (match ds with | [.int i, .int j] => _ | _ => _) S ↔ rg2 S ds s1
    unfold rg2
    split
    · exact ok_iff
    · exact Iff.rfl
  | _ => exact Iff.rfl
def srcK (Ex : Dv → Sto → Prop) (S : Src → Sto → Prop) : Dv → Sto → Prop := fun d s => match d with
  | .tup ds => S (ds, noChk) s
  | .ls ds => S (ds, noChk) s
  | .loc n => OkE Ex (match s[n]? with | some (.lst ds) => .ok (ds, isLst n ds) s | _ => .bad) S
  | _ => False
theorem srcK_tup {S : Src → Sto → Prop} {ds : List Dv} : srcK Ex S (.tup ds) s = S (ds, noChk) s := rfl
theorem srcK_ls {S : Src → Sto → Prop} {ds : List Dv} : srcK Ex S (.ls ds) s = S (ds, noChk) s := rfl
theorem srcK_loc {S : Src → Sto → Prop} {n : Nat} {ds : List Dv} (h : s[n]? = some (.lst ds)) : srcK Ex S (.loc n) s = S (ds, isLst n ds) s := by
  show OkE Ex (match s[n]? with | some (.lst ds) => _ | _ => _) S = _
  rw [h]; rfl
theorem ok_src {S : Src → Sto → Prop} {f : Fn Dv} : OkE Ex (fSrc f env s) S ↔ OkE Ex (f env s) (srcK Ex S) := by
  unfold fSrc; rw [ok_bind]
  cases f env s with
  | ok c s1 => cases c <;> exact Iff.rfl
  | _ => exact Iff.rfl

/-! ### loops by an invariant -/
theorem ok_loop {chk : Sto → Bool} {g : Dv → Fn En} {b : Fn Ct} {ds : List Dv} (I : Nat → En → Sto → Prop) (hc : ∀ i env s, I i env s → chk s = true)
    (step : ∀ i d env s, ds[i]? = some d → I i env s → OkE Ex (g d env s) fun env1 s1 => OkE Ex (b env1 s1) fun c s2 => match c with
      | .next e => I (i + 1) e s2
      | .cont e => I (i + 1) e s2
      | .brk e => R (.next e) s2
      | .ret r => R (.ret r) s2)
    (fin : ∀ env s, I ds.length env s → R (.next env) s) (h0 : I 0 env s) : OkE Ex (loopZ chk g b ds env s) R := by
  have go : ∀ (l : List Dv) (i : Nat) (env : En) (s : Sto), ds.drop i = l → i + l.length = ds.length → I i env s → OkE Ex (loopZ chk g b l env s) R := by
    intro l
    induction l with
    | nil =>
      intro i env s _ hl h
      show OkE Ex (Rs.iff _ _) R
      rw [ok_iff]
      refine ⟨hc _ _ _ h, ?_⟩
      have : i = ds.length := by simpa using hl
      subst this
      exact fin _ _ h
    | cons d l ih =>
      intro i env s hd hl h
      show OkE Ex (Rs.iff _ _) R
      rw [ok_iff, ok_bind]
      refine ⟨hc _ _ _ h, ?_⟩
      have hi : ds[i]? = some d := by
        have : (ds.drop i)[0]? = some d := by rw [hd]; rfl
        rwa [List.getElem?_drop, Nat.add_zero] at this
      refine (step i d env s hi h).mono fun env1 s1 h1 => ?_
      rw [ok_bind]
      refine h1.mono fun c s2 h2 => ?_
      have hd' : ds.drop (i + 1) = l := by
        rw [← List.drop_drop, hd]; rfl
      have hl' : i + 1 + l.length = ds.length := by rw [← hl, List.length_cons]; omega
      cases c with
      | next e => exact ih (i + 1) e s2 hd' hl' h2
      | cont e => exact ih (i + 1) e s2 hd' hl' h2
      | brk e => exact h2
      | ret r => exact h2
  exact go ds 0 env s rfl (by simp) h0
theorem ok_lcI {chk : Sto → Bool} {own : List Nat} {g : Dv → Fn En} {tt : Fn Bool} {te : Fn Dv} {ds : List Dv} (I : Nat → List Dv → Sto → Prop) (hc : ∀ i acc s, I i acc s → chk s = true)
    (step : ∀ i d acc s, ds[i]? = some d → I i acc s → OkE Ex (g d (wipeZ env own) s) fun env1 s1 => OkE Ex (tt env1 s1) fun b s2 => if b = true then OkE Ex (te env1 s2) fun y s3 => I (i + 1) (acc ++ [y]) s3 else I (i + 1) acc s2)
    (fin : ∀ acc s, I ds.length acc s → L acc s) (h0 : I 0 [] s) : OkE Ex (lcZ chk own g tt te ds env s) L := by
  have go : ∀ (l : List Dv) (i : Nat) (acc : List Dv) (s : Sto), ds.drop i = l → i + l.length = ds.length → I i acc s → OkE Ex (lcZ chk own g tt te l env s) fun ys s => L (acc ++ ys) s := by
    intro l
    induction l with
    | nil =>
      intro i acc s _ hl h
      show OkE Ex (Rs.iff _ _) _
      rw [ok_iff]
      refine ⟨hc _ _ _ h, ?_⟩
      have : i = ds.length := by simpa using hl
      subst this
      show L (acc ++ []) s
      rw [List.append_nil]; exact fin _ _ h
    | cons d l ih =>
      intro i acc s hd hl h
      show OkE Ex (Rs.iff _ _) _
      rw [ok_iff, ok_bind]
      refine ⟨hc _ _ _ h, ?_⟩
      have hi : ds[i]? = some d := by
        have : (ds.drop i)[0]? = some d := by rw [hd]; rfl
        rwa [List.getElem?_drop, Nat.add_zero] at this
      refine (step i d acc s hi h).mono fun env1 s1 h1 => ?_
      rw [ok_bind]
      refine h1.mono fun c s2 h2 => ?_
      have hd' : ds.drop (i + 1) = l := by
        rw [← List.drop_drop, hd]; rfl
      have hl' : i + 1 + l.length = ds.length := by rw [← hl, List.length_cons]; omega
      cases c with
      | true =>
        rw [if_pos rfl] at h2 ⊢
        rw [ok_bind]
        refine h2.mono fun y s3 h3 => ?_
        rw [ok_bind]
        refine (ih (i + 1) _ s3 hd' hl' h3).mono fun ys s4 h4 => ?_
        show L (acc ++ (y :: ys)) s4
        have e : acc ++ [y] ++ ys = acc ++ (y :: ys) := by rw [List.append_assoc]; rfl
        rw [← e]; exact h4
      | false =>
        rw [if_neg Bool.false_ne_true] at h2 ⊢
        exact ih (i + 1) acc s2 hd' hl' h2
  exact (go ds 0 [] s rfl (by simp) h0).mono fun ys s h => by simpa using h

/-! ### defs -/
def finK (Ex : Dv → Sto → Prop) (b : Nat) (T : Dv → Sto → Prop) : Ct → Sto → Prop
  | .next _, s => OkE Ex (gcZ b .non s) T
  | .ret d, s => OkE Ex (gcZ b d s) T
  | _, _ => False
theorem finK_next {b : Nat} : finK Ex b T (.next env) s = OkE Ex (gcZ b .non s) T := rfl
theorem finK_ret {b : Nat} {d : Dv} : finK Ex b T (.ret d) s = OkE Ex (gcZ b d s) T := rfl
theorem ok_def {n m : Nat} {body : Fn Ct} {ds : List Dv} : OkE Ex (fDef n m body ds s) T ↔ (ds.length == n) = true ∧ OkE Ex (body (ds.map some ++ List.replicate (m - n) none) s) (finK Ex s.length T) := by
  unfold fDef
  rw [ok_iff, ok_bind]
  refine and_congr_right fun _ => ?_
  cases body (ds.map some ++ List.replicate (m - n) none) s with
  | ok c s1 => cases c <;> exact Iff.rfl
  | _ => exact Iff.rfl
mutual
theorem below_mono {a b : Nat} (h : a ≤ b) : ∀ {d : Dv}, below a d = true → below b d = true
  | .tup ds, e => by simp only [below] at e ⊢; exact belows_mono h e
  | .ls ds, e => by simp only [below] at e ⊢; exact belows_mono h e
  | .loc n, e => by simp only [below, decide_eq_true_eq] at e ⊢; omega
  | .non, _ => rfl
  | .bl _, _ => rfl
  | .int _, _ => rfl
  | .str _, _ => rfl
  | .xn _ _ _ fs, e => by simp only [below] at e ⊢; exact belows_mono h e
theorem belows_mono {a b : Nat} (h : a ≤ b) : ∀ {ds : List Dv}, belows a ds = true → belows b ds = true
  | [], _ => rfl
  | d :: r, e => by
    simp only [belows, Bool.and_eq_true] at e ⊢
    exact ⟨below_mono h e.1, belows_mono h e.2⟩
end
theorem belowO_mono {a b : Nat} (h : a ≤ b) {o : Ob} (e : belowO a o = true) : belowO b o = true := by
  cases o with
  | lst ds => exact belows_mono h e
  | dk kvs => exact List.all_eq_true.mpr fun p hp => below_mono h (List.all_eq_true.mp e p hp)
  | dt kvs => exact List.all_eq_true.mpr fun p hp => below_mono h (List.all_eq_true.mp e p hp)
/-- nothing of the store is named in what lies in the store -/
def Fl (s : Sto) : Prop := ∀ o ∈ s, belowO 0 o = true
theorem ok_gc {b l : Sto} {n : Nat} {d : Dv} (hn : b.length = n) (hb : Fl b) (hd : below n d = true) (h : T d b) : OkE Ex (gcZ n d (b ++ l)) T := by
  subst hn
  have ht : (b ++ l).take b.length = b := by simp
  have hk : keepsZ b.length (b ++ l) = true := by
    unfold keepsZ; rw [ht]
    exact List.all_eq_true.mpr fun o ho => belowO_mono (Nat.zero_le _) (hb o ho)
  unfold gcZ
  rw [hd, hk, ht]
  exact h
theorem ok_gc0 {b : Sto} {n : Nat} {d : Dv} (hn : b.length = n) (hb : Fl b) (hd : below n d = true) (h : T d b) : OkE Ex (gcZ n d b) T := by
  have := ok_gc (Ex := Ex) (l := []) hn hb hd h
  rwa [List.append_nil] at this
end
end Z

namespace Z
open PySem PySem.Spec PyProof.Rows L2

/-! ### the tap -/
structure Tap where
  cells : List Int
  spot : Int
  rest : Int
  calls : Int
def tapOb (t : Tap) : Ob := .dk [(.inr (Str.ofString "cells"), .ls (t.cells.map .int)), (.inr (Str.ofString "spot"), .int t.spot), (.inr (Str.ofString "rest"), .int t.rest), (.inr (Str.ofString "calls"), .int t.calls)]
theorem tap_cells {t : Tap} {r : Sto} : gIx (.loc 0) (.str (Str.ofString "cells")) (tapOb t :: r) = .ok (.ls (t.cells.map .int)) (tapOb t :: r) := by rfl
theorem tap_spot {t : Tap} {r : Sto} : gIx (.loc 0) (.str (Str.ofString "spot")) (tapOb t :: r) = .ok (.int t.spot) (tapOb t :: r) := by rfl
theorem tap_rest {t : Tap} {r : Sto} : gIx (.loc 0) (.str (Str.ofString "rest")) (tapOb t :: r) = .ok (.int t.rest) (tapOb t :: r) := by rfl
theorem tap_calls {t : Tap} {r : Sto} : gIx (.loc 0) (.str (Str.ofString "calls")) (tapOb t :: r) = .ok (.int t.calls) (tapOb t :: r) := by rfl
theorem put_calls {t : Tap} {r : Sto} {i : Int} : gPut (.loc 0) (.str (Str.ofString "calls")) (.int i) (tapOb t :: r) = .ok () (tapOb { t with calls := i } :: r) := by rfl
theorem put_rest {t : Tap} {r : Sto} {i : Int} : gPut (.loc 0) (.str (Str.ofString "rest")) (.int i) (tapOb t :: r) = .ok () (tapOb { t with rest := i } :: r) := by rfl
theorem put_spot {t : Tap} {r : Sto} {i : Int} : gPut (.loc 0) (.str (Str.ofString "spot")) (.int i) (tapOb t :: r) = .ok () (tapOb { t with spot := i } :: r) := by rfl
theorem add_int {i j : Int} {s : Sto} : gAdd (.int i) (.int j) s = .ok (.int (i + j)) s := rfl
theorem sub_int {i j : Int} {s : Sto} : gSub (.int i) (.int j) s = .ok (.int (i - j)) s := rfl
theorem gt_int {i j : Int} {s : Sto} : gGt (.int i) (.int j) s = .ok (.bl (decide (j < i))) s := rfl
theorem ge_int {i j : Int} {s : Sto} : gGe (.int i) (.int j) s = .ok (.bl (decide (j ≤ i))) s := rfl
theorem lt_int {i j : Int} {s : Sto} : gLt (.int i) (.int j) s = .ok (.bl (decide (i < j))) s := rfl
theorem ne_str {i j : Str} {s : Sto} : gNe (.str i) (.str j) s = .ok (.bl (!(i == j))) s := rfl
theorem mod_int {i j : Int} {s : Sto} : gMod (.int i) (.int j) s = Rs.iff (decide (0 < j)) (.ok (.int (i % j)) s) := rfl
theorem div_int {i j : Int} {s : Sto} : gDiv (.int i) (.int j) s = Rs.iff (decide (0 < j) && decide (j < 2 ^ 64)) (.ok (.int (i / j)) s) := rfl
theorem mul_int {i j : Int} {s : Sto} : gMul (.int i) (.int j) s = Rs.iff ((decide (-(2 ^ 64) < i) && decide (i < 2 ^ 64)) || (decide (-(2 ^ 64) < j) && decide (j < 2 ^ 64))) (.ok (.int (i * j)) s) := rfl
theorem pow_int {i j : Int} {s : Sto} : gPow (.int i) (.int j) s = Rs.iff (decide (0 ≤ j) && decide (j ≤ 1000000) && decide (-(2 ^ 64) < i) && decide (i < 2 ^ 64)) (.ok (.int (i ^ j.toNat)) s) := rfl
theorem mod_ok {i j : Int} {s : Sto} (h : 0 < j) : gMod (.int i) (.int j) s = .ok (.int (i % j)) s := by rw [mod_int, decide_eq_true h]; rfl
theorem div_ok {i j : Int} {s : Sto} (h : 0 < j) (h2 : j < 2 ^ 64) : gDiv (.int i) (.int j) s = .ok (.int (i / j)) s := by rw [div_int, decide_eq_true h, decide_eq_true h2]; rfl
theorem mul_ok {i j : Int} {s : Sto} (h : -(2 ^ 64) < i ∧ i < 2 ^ 64) : gMul (.int i) (.int j) s = .ok (.int (i * j)) s := by rw [mul_int, decide_eq_true h.1, decide_eq_true h.2]; rfl
theorem pow_ok {i j : Int} {s : Sto} (h : 0 ≤ j ∧ j ≤ 1000000) (h2 : -(2 ^ 64) < i ∧ i < 2 ^ 64) : gPow (.int i) (.int j) s = .ok (.int (i ^ j.toNat)) s := by rw [pow_int, decide_eq_true h.1, decide_eq_true h.2, decide_eq_true h2.1, decide_eq_true h2.2]; rfl
theorem len_ls {ds : List Dv} {s : Sto} : gLen [.ls ds] s = .ok (.int ds.length) s := rfl
theorem len_tup {ds : List Dv} {s : Sto} : gLen [.tup ds] s = .ok (.int ds.length) s := rfl
theorem atI_nat' {ds : List Dv} {j : Nat} {d : Dv} (h : ds[j]? = some d) : atI ds (j : Int) = some d := L2.atI_nat h
theorem ix_ls {ds : List Dv} {i : Int} {d : Dv} {s : Sto} (h0 : 0 ≤ i) (h : ds[i.toNat]? = some d) : gIx (.ls ds) (.int i) s = .ok d s := by
  have e : atI ds i = some d := by
    have := atI_nat' h
    rwa [Int.toNat_of_nonneg h0] at this
  show (match (some ds).bind (atI · i) with | some d => _ | none => _) = _
  rw [Option.bind_some, e]
theorem ix_tup {ds : List Dv} {i : Int} {d : Dv} {s : Sto} (h0 : 0 ≤ i) (h : ds[i.toNat]? = some d) : gIx (.tup ds) (.int i) s = .ok d s := by
  have e : atI ds i = some d := by
    have := atI_nat' h
    rwa [Int.toNat_of_nonneg h0] at this
  show (match (some ds).bind (atI · i) with | some d => _ | none => _) = _
  rw [Option.bind_some, e]
/-- the tap is sound -/
structure Tap.Wf (t : Tap) : Prop where
  c0 : 0 ≤ t.calls
  r0 : 0 ≤ t.rest
  s0 : 0 ≤ t.spot
def bTake : Fn Ct :=
  fSeq (fSet 2 (fBin gAdd (fBin gIx (fVar 0) (fC (.str (Str.ofString "calls")))) (fC (.int 1))))
  (fSeq (fPut (fVar 0) (fC (.str (Str.ofString "calls"))) (fVar 2))
  (fSeq (fIfS (fTest (fBin gGt (fBin gIx (fVar 0) (fC (.str (Str.ofString "rest")))) (fC (.int 0)))) (fSeq (fSet 3 (fBin gMod (fBin gIx (fVar 0) (fC (.str (Str.ofString "rest")))) (fVar 1)))
  (fSeq (fPut (fVar 0) (fC (.str (Str.ofString "rest"))) (fBin gDiv (fBin gIx (fVar 0) (fC (.str (Str.ofString "rest")))) (fVar 1)))
  (fRet (fVar 3)))) (fNop))
  (fSeq (fSet 4 (fBin gIx (fVar 0) (fC (.str (Str.ofString "spot")))))
  (fSeq (fPut (fVar 0) (fC (.str (Str.ofString "spot"))) (fBin gAdd (fVar 4) (fC (.int 1))))
  (fSeq (fSet 5 (fBin gIx (fVar 0) (fC (.str (Str.ofString "cells")))))
  (fSeq (fSet 6 (fIf (fTest (fBin gGt (fCall gLen (fCons (fVar 5) (fNil))) (fC (.int 0)))) (fBin gIx (fVar 5) (fBin gMod (fVar 4) (fCall gLen (fCons (fVar 5) (fNil))))) (fC (.int 5))))
  (fSeq (fIfS (fAndT (fTest (fBin gLt (fVar 4) (fCall gLen (fCons (fVar 5) (fNil))))) (fTest (fBin gGe (fVar 6) (fBin gPow (fC (.int 10)) (fC (.int 18)))))) (fSeq (fPut (fVar 0) (fC (.str (Str.ofString "rest"))) (fBin gDiv (fVar 6) (fVar 1)))
  (fRet (fBin gMod (fVar 6) (fVar 1)))) (fNop))
  (fSeq (fSet 7 (fBin gMod (fBin gPow (fBin gAdd (fBin gAdd (fBin gMod (fVar 6) (fC (.int 2147483629))) (fBin gMul (fC (.int 6007)) (fVar 2))) (fC (.int 11))) (fC (.int 5))) (fC (.int 2147483647))))
  (fRet (fBin gMod (fBin gDiv (fBin gMod (fBin gPow (fBin gAdd (fVar 7) (fBin gMul (fBin gMul (fC (.int 4099)) (fVar 2)) (fVar 2))) (fC (.int 5))) (fC (.int 2147483587))) (fC (.int 32))) (fVar 1)))))))))))
def TakeS (φ : Phi) : Prop := ∀ (t : Tap) (r : Sto) (m : Int), t.Wf → t.calls < 1000000 → 1 ≤ m → m < 2 ^ 64 → Fl r → OkE nX (φ [.loc 0, .int m] (tapOb t :: r)) fun d s' => ∃ (x : Int) (t' : Tap), d = .int x ∧ 0 ≤ x ∧ x < m ∧ s' = tapOb t' :: r ∧ t'.Wf ∧ t'.calls = t.calls + 1
theorem belows_ints (n : Nat) : ∀ zs : List Int, belows n (zs.map .int) = true
  | [] => rfl
  | z :: r => by
    show (below n (.int z) && belows n (r.map .int)) = true
    rw [belows_ints n r]; rfl
theorem Fl.tap {t : Tap} {r : Sto} (h : Fl r) : Fl (tapOb t :: r) := fun o ho => by
  rcases List.mem_cons.mp ho with z | z
  · subst z
    simp only [tapOb, belowO, List.all_cons, List.all_nil, below, belows_ints, Bool.and_true]
  · exact h o z
theorem take_spec : TakeS (fDef 2 8 bTake) := by
  intro t r m hw hc hm hm2 hf
  have fin : ∀ {t' : Tap} {x : Int} {T : Dv → Sto → Prop}, T (.int x) (tapOb t' :: r) → OkE nX (gcZ (r.length + 1) (.int x) (tapOb t' :: r)) T := fun h => ok_gc0 (b := _ :: r) rfl hf.tap rfl h
  rw [ok_def]
  refine ⟨rfl, ?_⟩
  unfold bTake
  have hmp : 0 < m := by omega
  have hw1 := hw.c0
  simp only [ok_ok, kDrop_ap, kRet_ap, kSet_ap, kCons2_ap, kCons_ap, kTup_ap, kLst_ap, kVal_ap, kNew_ap, kBin2_ap, kBin_ap, kUn_ap, kCall_ap, kCallL_ap, kNotT_ap, kAndT_ap, kOrT_ap, kIf_ap, kIfS_ap, kAnd_ap, kOr_ap, kNot_ap, kMt2_ap, kMt_ap, kPut4_ap, kPut3_ap, kPut2_ap, kPut_ap, kExt2_ap, kExt_ap, kAsg2_ap, kAsg_ap, kFor_ap, kLc_ap, kSl3_ap, kSl2_ap, kSl_ap, kGs_ap, ok_seq, sq_next, sq_ret, sq_brk, sq_cont, ok_nop, ok_brk, ok_cont, ok_drop, ok_ret, ok_retN, ok_set, ok_var0, ok_varS, ok_c, ok_nil, ok_cons, ok_tup, ok_lst, ok_val, ok_new, ok_bin, ok_un, ok_call, ok_callL, ok_test, tst_bl, ok_notT, ok_andT, ok_orT, ok_if, ok_ifS, ok_and, ok_or, ok_not, ok_mt, ok_put, ok_extend, pr2_mk, ok_par2, ok_asg, ok_for, ok_lc, ok_yes, ok_noPart, prt_int, ok_part, ok_sl, ok_gNm, ok_gTp, ok_gsN, ok_gsC, rg1_mk, rg2_mk, ok_rng1, ok_rng2, srcK_tup, srcK_ls, ok_src, finK_next, finK_ret, List.set_cons_zero, List.set_cons_succ, List.map_cons, List.map_nil, List.replicate, List.cons_append, List.nil_append, List.length_cons, List.length_nil, Bool.false_eq_true, eq_self, if_true, if_false, Nat.zero_add, okX_non, okX_bl, okX_int, okX_str, okX_tup, okX_ls, okX_loc, true_and, tap_calls, add_int, put_calls, tap_rest, gt_int, tap_spot, put_spot, tap_cells, len_ls, decide_eq_true_eq]
  split
  · rename_i h1
    simp only [ok_ok, kDrop_ap, kRet_ap, kSet_ap, kCons2_ap, kCons_ap, kTup_ap, kLst_ap, kVal_ap, kNew_ap, kBin2_ap, kBin_ap, kUn_ap, kCall_ap, kCallL_ap, kNotT_ap, kAndT_ap, kOrT_ap, kIf_ap, kIfS_ap, kAnd_ap, kOr_ap, kNot_ap, kMt2_ap, kMt_ap, kPut4_ap, kPut3_ap, kPut2_ap, kPut_ap, kExt2_ap, kExt_ap, kAsg2_ap, kAsg_ap, kFor_ap, kLc_ap, kSl3_ap, kSl2_ap, kSl_ap, kGs_ap, ok_seq, sq_next, sq_ret, sq_brk, sq_cont, ok_nop, ok_brk, ok_cont, ok_drop, ok_ret, ok_retN, ok_set, ok_var0, ok_varS, ok_c, ok_nil, ok_cons, ok_tup, ok_lst, ok_val, ok_new, ok_bin, ok_un, ok_call, ok_callL, ok_test, tst_bl, ok_notT, ok_andT, ok_orT, ok_if, ok_ifS, ok_and, ok_or, ok_not, ok_mt, ok_put, ok_extend, pr2_mk, ok_par2, ok_asg, ok_for, ok_lc, ok_yes, ok_noPart, prt_int, ok_part, ok_sl, ok_gNm, ok_gTp, ok_gsN, ok_gsC, rg1_mk, rg2_mk, ok_rng1, ok_rng2, srcK_tup, srcK_ls, ok_src, finK_next, finK_ret, List.set_cons_zero, List.set_cons_succ, List.map_cons, List.map_nil, List.replicate, List.cons_append, List.nil_append, List.length_cons, List.length_nil, Bool.false_eq_true, eq_self, if_true, if_false, Nat.zero_add, okX_non, okX_bl, okX_int, okX_str, okX_tup, okX_ls, okX_loc, true_and, mod_ok hmp, div_ok hmp hm2, tap_rest, put_rest]
    exact fin ⟨_, _, rfl, Int.emod_nonneg _ (by omega), Int.emod_lt_of_pos _ hmp, rfl, ⟨by show 0 ≤ t.calls + 1; omega, Int.ediv_nonneg hw.r0 (by omega), hw.s0⟩, rfl⟩
  · -- the rest of it, by any cell
    have tail : ∀ (x : Int) (sp : Int), 0 ≤ sp → OkE nX (fSeq (fSet 7 (fBin gMod (fBin gPow (fBin gAdd (fBin gAdd (fBin gMod (fVar 6) (fC (.int 2147483629))) (fBin gMul (fC (.int 6007)) (fVar 2))) (fC (.int 11))) (fC (.int 5))) (fC (.int 2147483647))))
        (fRet (fBin gMod (fBin gDiv (fBin gMod (fBin gPow (fBin gAdd (fVar 7) (fBin gMul (fBin gMul (fC (.int 4099)) (fVar 2)) (fVar 2))) (fC (.int 5))) (fC (.int 2147483587))) (fC (.int 32))) (fVar 1)))
        [some (Dv.loc 0), some (Dv.int m), some (Dv.int (t.calls + 1)), none, some (Dv.int t.spot), some (Dv.ls (t.cells.map Dv.int)), some (Dv.int x), none] (tapOb { cells := t.cells, spot := sp, rest := t.rest, calls := t.calls + 1 } :: r))
        (finK nX (r.length + 1) fun d s' => ∃ x t', d = Dv.int x ∧ 0 ≤ x ∧ x < m ∧ s' = tapOb t' :: r ∧ t'.Wf ∧ t'.calls = t.calls + 1) := by
      intro x sp hsp
      have g1 : 0 ≤ x % 2147483629 ∧ x % 2147483629 < 2147483629 := ⟨Int.emod_nonneg _ (by decide), Int.emod_lt_of_pos _ (by decide)⟩
      simp only [ok_ok, kDrop_ap, kRet_ap, kSet_ap, kCons2_ap, kCons_ap, kTup_ap, kLst_ap, kVal_ap, kNew_ap, kBin2_ap, kBin_ap, kUn_ap, kCall_ap, kCallL_ap, kNotT_ap, kAndT_ap, kOrT_ap, kIf_ap, kIfS_ap, kAnd_ap, kOr_ap, kNot_ap, kMt2_ap, kMt_ap, kPut4_ap, kPut3_ap, kPut2_ap, kPut_ap, kExt2_ap, kExt_ap, kAsg2_ap, kAsg_ap, kFor_ap, kLc_ap, kSl3_ap, kSl2_ap, kSl_ap, kGs_ap, ok_seq, sq_next, sq_ret, sq_brk, sq_cont, ok_nop, ok_brk, ok_cont, ok_drop, ok_ret, ok_retN, ok_set, ok_var0, ok_varS, ok_c, ok_nil, ok_cons, ok_tup, ok_lst, ok_val, ok_new, ok_bin, ok_un, ok_call, ok_callL, ok_test, tst_bl, ok_notT, ok_andT, ok_orT, ok_if, ok_ifS, ok_and, ok_or, ok_not, ok_mt, ok_put, ok_extend, pr2_mk, ok_par2, ok_asg, ok_for, ok_lc, ok_yes, ok_noPart, prt_int, ok_part, ok_sl, ok_gNm, ok_gTp, ok_gsN, ok_gsC, rg1_mk, rg2_mk, ok_rng1, ok_rng2, srcK_tup, srcK_ls, ok_src, finK_next, finK_ret, List.set_cons_zero, List.set_cons_succ, List.map_cons, List.map_nil, List.replicate, List.cons_append, List.nil_append, List.length_cons, List.length_nil, Bool.false_eq_true, eq_self, if_true, if_false, Nat.zero_add, okX_non, okX_bl, okX_int, okX_str, okX_tup, okX_ls, okX_loc, true_and, mod_ok (show (0 : Int) < 2147483629 by decide), mul_ok (show -(2 ^ 64) < (6007 : Int) ∧ (6007 : Int) < 2 ^ 64 by decide), add_int]
      rw [pow_ok (by decide) (by constructor <;> omega)]
      simp only [ok_ok, kDrop_ap, kRet_ap, kSet_ap, kCons2_ap, kCons_ap, kTup_ap, kLst_ap, kVal_ap, kNew_ap, kBin2_ap, kBin_ap, kUn_ap, kCall_ap, kCallL_ap, kNotT_ap, kAndT_ap, kOrT_ap, kIf_ap, kIfS_ap, kAnd_ap, kOr_ap, kNot_ap, kMt2_ap, kMt_ap, kPut4_ap, kPut3_ap, kPut2_ap, kPut_ap, kExt2_ap, kExt_ap, kAsg2_ap, kAsg_ap, kFor_ap, kLc_ap, kSl3_ap, kSl2_ap, kSl_ap, kGs_ap, ok_seq, sq_next, sq_ret, sq_brk, sq_cont, ok_nop, ok_brk, ok_cont, ok_drop, ok_ret, ok_retN, ok_set, ok_var0, ok_varS, ok_c, ok_nil, ok_cons, ok_tup, ok_lst, ok_val, ok_new, ok_bin, ok_un, ok_call, ok_callL, ok_test, tst_bl, ok_notT, ok_andT, ok_orT, ok_if, ok_ifS, ok_and, ok_or, ok_not, ok_mt, ok_put, ok_extend, pr2_mk, ok_par2, ok_asg, ok_for, ok_lc, ok_yes, ok_noPart, prt_int, ok_part, ok_sl, ok_gNm, ok_gTp, ok_gsN, ok_gsC, rg1_mk, rg2_mk, ok_rng1, ok_rng2, srcK_tup, srcK_ls, ok_src, finK_next, finK_ret, List.set_cons_zero, List.set_cons_succ, List.map_cons, List.map_nil, List.replicate, List.cons_append, List.nil_append, List.length_cons, List.length_nil, Bool.false_eq_true, eq_self, if_true, if_false, Nat.zero_add, okX_non, okX_bl, okX_int, okX_str, okX_tup, okX_ls, okX_loc, true_and, mod_ok (show (0 : Int) < 2147483647 by decide), mul_ok (show -(2 ^ 64) < (4099 : Int) ∧ (4099 : Int) < 2 ^ 64 by decide)]
      have g2 : 0 ≤ (x % 2147483629 + 6007 * (t.calls + 1) + 11) ^ (Int.toNat 5) % 2147483647 ∧ (x % 2147483629 + 6007 * (t.calls + 1) + 11) ^ (Int.toNat 5) % 2147483647 < 2147483647 := ⟨Int.emod_nonneg _ (by decide), Int.emod_lt_of_pos _ (by decide)⟩
      generalize (x % 2147483629 + 6007 * (t.calls + 1) + 11) ^ (Int.toNat 5) % 2147483647 = y at g2 ⊢
      rw [mul_ok (by constructor <;> omega)]
      simp only [ok_ok, kDrop_ap, kRet_ap, kSet_ap, kCons2_ap, kCons_ap, kTup_ap, kLst_ap, kVal_ap, kNew_ap, kBin2_ap, kBin_ap, kUn_ap, kCall_ap, kCallL_ap, kNotT_ap, kAndT_ap, kOrT_ap, kIf_ap, kIfS_ap, kAnd_ap, kOr_ap, kNot_ap, kMt2_ap, kMt_ap, kPut4_ap, kPut3_ap, kPut2_ap, kPut_ap, kExt2_ap, kExt_ap, kAsg2_ap, kAsg_ap, kFor_ap, kLc_ap, kSl3_ap, kSl2_ap, kSl_ap, kGs_ap, ok_seq, sq_next, sq_ret, sq_brk, sq_cont, ok_nop, ok_brk, ok_cont, ok_drop, ok_ret, ok_retN, ok_set, ok_var0, ok_varS, ok_c, ok_nil, ok_cons, ok_tup, ok_lst, ok_val, ok_new, ok_bin, ok_un, ok_call, ok_callL, ok_test, tst_bl, ok_notT, ok_andT, ok_orT, ok_if, ok_ifS, ok_and, ok_or, ok_not, ok_mt, ok_put, ok_extend, pr2_mk, ok_par2, ok_asg, ok_for, ok_lc, ok_yes, ok_noPart, prt_int, ok_part, ok_sl, ok_gNm, ok_gTp, ok_gsN, ok_gsC, rg1_mk, rg2_mk, ok_rng1, ok_rng2, srcK_tup, srcK_ls, ok_src, finK_next, finK_ret, List.set_cons_zero, List.set_cons_succ, List.map_cons, List.map_nil, List.replicate, List.cons_append, List.nil_append, List.length_cons, List.length_nil, Bool.false_eq_true, eq_self, if_true, if_false, Nat.zero_add, okX_non, okX_bl, okX_int, okX_str, okX_tup, okX_ls, okX_loc, true_and, add_int]
      have g3 : 0 ≤ 4099 * (t.calls + 1) * (t.calls + 1) ∧ 4099 * (t.calls + 1) * (t.calls + 1) ≤ 4099 * 1000000 * 1000000 := by
        refine ⟨Int.mul_nonneg (by omega) (by omega), ?_⟩
        exact Int.mul_le_mul (by omega) (by omega) (by omega) (by decide)
      generalize 4099 * (t.calls + 1) * (t.calls + 1) = z at g3 ⊢
      rw [pow_ok (by decide) (by constructor <;> omega)]
      simp only [ok_ok, kDrop_ap, kRet_ap, kSet_ap, kCons2_ap, kCons_ap, kTup_ap, kLst_ap, kVal_ap, kNew_ap, kBin2_ap, kBin_ap, kUn_ap, kCall_ap, kCallL_ap, kNotT_ap, kAndT_ap, kOrT_ap, kIf_ap, kIfS_ap, kAnd_ap, kOr_ap, kNot_ap, kMt2_ap, kMt_ap, kPut4_ap, kPut3_ap, kPut2_ap, kPut_ap, kExt2_ap, kExt_ap, kAsg2_ap, kAsg_ap, kFor_ap, kLc_ap, kSl3_ap, kSl2_ap, kSl_ap, kGs_ap, ok_seq, sq_next, sq_ret, sq_brk, sq_cont, ok_nop, ok_brk, ok_cont, ok_drop, ok_ret, ok_retN, ok_set, ok_var0, ok_varS, ok_c, ok_nil, ok_cons, ok_tup, ok_lst, ok_val, ok_new, ok_bin, ok_un, ok_call, ok_callL, ok_test, tst_bl, ok_notT, ok_andT, ok_orT, ok_if, ok_ifS, ok_and, ok_or, ok_not, ok_mt, ok_put, ok_extend, pr2_mk, ok_par2, ok_asg, ok_for, ok_lc, ok_yes, ok_noPart, prt_int, ok_part, ok_sl, ok_gNm, ok_gTp, ok_gsN, ok_gsC, rg1_mk, rg2_mk, ok_rng1, ok_rng2, srcK_tup, srcK_ls, ok_src, finK_next, finK_ret, List.set_cons_zero, List.set_cons_succ, List.map_cons, List.map_nil, List.replicate, List.cons_append, List.nil_append, List.length_cons, List.length_nil, Bool.false_eq_true, eq_self, if_true, if_false, Nat.zero_add, okX_non, okX_bl, okX_int, okX_str, okX_tup, okX_ls, okX_loc, true_and, mod_ok (show (0 : Int) < 2147483587 by decide), div_ok (show (0 : Int) < 32 by decide) (by decide), mod_ok hmp]
      exact fin ⟨_, _, rfl, Int.emod_nonneg _ (by omega), Int.emod_lt_of_pos _ hmp, rfl, ⟨by show 0 ≤ t.calls + 1; omega, hw.r0, hsp⟩, rfl⟩
    have mid : ∀ (x : Int), OkE nX (fSeq (fIfS (fAndT (fTest (fBin gLt (fVar 4) (fCall gLen (fCons (fVar 5) (fNil))))) (fTest (fBin gGe (fVar 6) (fBin gPow (fC (.int 10)) (fC (.int 18)))))) (fSeq (fPut (fVar 0) (fC (.str (Str.ofString "rest"))) (fBin gDiv (fVar 6) (fVar 1)))
  (fRet (fBin gMod (fVar 6) (fVar 1)))) (fNop)) (fSeq (fSet 7 (fBin gMod (fBin gPow (fBin gAdd (fBin gAdd (fBin gMod (fVar 6) (fC (.int 2147483629))) (fBin gMul (fC (.int 6007)) (fVar 2))) (fC (.int 11))) (fC (.int 5))) (fC (.int 2147483647))))
        (fRet (fBin gMod (fBin gDiv (fBin gMod (fBin gPow (fBin gAdd (fVar 7) (fBin gMul (fBin gMul (fC (.int 4099)) (fVar 2)) (fVar 2))) (fC (.int 5))) (fC (.int 2147483587))) (fC (.int 32))) (fVar 1))))
        [some (Dv.loc 0), some (Dv.int m), some (Dv.int (t.calls + 1)), none, some (Dv.int t.spot), some (Dv.ls (t.cells.map Dv.int)), some (Dv.int x), none] (tapOb { cells := t.cells, spot := t.spot + 1, rest := t.rest, calls := t.calls + 1 } :: r))
        (finK nX (r.length + 1) fun d s' => ∃ x t', d = Dv.int x ∧ 0 ≤ x ∧ x < m ∧ s' = tapOb t' :: r ∧ t'.Wf ∧ t'.calls = t.calls + 1) := by
      intro x
      have tl := tail x (t.spot + 1) (by have := hw.s0; omega)
      rw [ok_seq]
      simp only [ok_ok, kDrop_ap, kRet_ap, kSet_ap, kCons2_ap, kCons_ap, kTup_ap, kLst_ap, kVal_ap, kNew_ap, kBin2_ap, kBin_ap, kUn_ap, kCall_ap, kCallL_ap, kNotT_ap, kAndT_ap, kOrT_ap, kIf_ap, kIfS_ap, kAnd_ap, kOr_ap, kNot_ap, kMt2_ap, kMt_ap, kPut4_ap, kPut3_ap, kPut2_ap, kPut_ap, kExt2_ap, kExt_ap, kAsg2_ap, kAsg_ap, kFor_ap, kLc_ap, kSl3_ap, kSl2_ap, kSl_ap, kGs_ap, ok_seq, sq_next, sq_ret, sq_brk, sq_cont, ok_nop, ok_brk, ok_cont, ok_drop, ok_ret, ok_retN, ok_set, ok_var0, ok_varS, ok_c, ok_nil, ok_cons, ok_tup, ok_lst, ok_val, ok_new, ok_bin, ok_un, ok_call, ok_callL, ok_test, tst_bl, ok_notT, ok_andT, ok_orT, ok_if, ok_ifS, ok_and, ok_or, ok_not, ok_mt, ok_put, ok_extend, pr2_mk, ok_par2, ok_asg, ok_for, ok_lc, ok_yes, ok_noPart, prt_int, ok_part, ok_sl, ok_gNm, ok_gTp, ok_gsN, ok_gsC, rg1_mk, rg2_mk, ok_rng1, ok_rng2, srcK_tup, srcK_ls, ok_src, finK_next, finK_ret, List.set_cons_zero, List.set_cons_succ, List.map_cons, List.map_nil, List.replicate, List.cons_append, List.nil_append, List.length_cons, List.length_nil, Bool.false_eq_true, eq_self, if_true, if_false, Nat.zero_add, okX_non, okX_bl, okX_int, okX_str, okX_tup, okX_ls, okX_loc, true_and, len_ls, lt_int, pow_ok (show (0 : Int) ≤ 18 ∧ (18 : Int) ≤ 1000000 by decide) (show -(2 ^ 64) < (10 : Int) ∧ (10 : Int) < 2 ^ 64 by decide), ge_int, decide_eq_true_eq]
      split
      · split
        · rename_i h2
          simp only [ok_ok, kDrop_ap, kRet_ap, kSet_ap, kCons2_ap, kCons_ap, kTup_ap, kLst_ap, kVal_ap, kNew_ap, kBin2_ap, kBin_ap, kUn_ap, kCall_ap, kCallL_ap, kNotT_ap, kAndT_ap, kOrT_ap, kIf_ap, kIfS_ap, kAnd_ap, kOr_ap, kNot_ap, kMt2_ap, kMt_ap, kPut4_ap, kPut3_ap, kPut2_ap, kPut_ap, kExt2_ap, kExt_ap, kAsg2_ap, kAsg_ap, kFor_ap, kLc_ap, kSl3_ap, kSl2_ap, kSl_ap, kGs_ap, ok_seq, sq_next, sq_ret, sq_brk, sq_cont, ok_nop, ok_brk, ok_cont, ok_drop, ok_ret, ok_retN, ok_set, ok_var0, ok_varS, ok_c, ok_nil, ok_cons, ok_tup, ok_lst, ok_val, ok_new, ok_bin, ok_un, ok_call, ok_callL, ok_test, tst_bl, ok_notT, ok_andT, ok_orT, ok_if, ok_ifS, ok_and, ok_or, ok_not, ok_mt, ok_put, ok_extend, pr2_mk, ok_par2, ok_asg, ok_for, ok_lc, ok_yes, ok_noPart, prt_int, ok_part, ok_sl, ok_gNm, ok_gTp, ok_gsN, ok_gsC, rg1_mk, rg2_mk, ok_rng1, ok_rng2, srcK_tup, srcK_ls, ok_src, finK_next, finK_ret, List.set_cons_zero, List.set_cons_succ, List.map_cons, List.map_nil, List.replicate, List.cons_append, List.nil_append, List.length_cons, List.length_nil, Bool.false_eq_true, eq_self, if_true, if_false, Nat.zero_add, okX_non, okX_bl, okX_int, okX_str, okX_tup, okX_ls, okX_loc, true_and, div_ok hmp hm2, put_rest, mod_ok hmp]
          refine fin ⟨_, _, rfl, Int.emod_nonneg _ (by omega), Int.emod_lt_of_pos _ hmp, rfl, ⟨by show 0 ≤ t.calls + 1; omega, Int.ediv_nonneg ?_ (by omega), by show 0 ≤ t.spot + 1; have := hw.s0; omega⟩, rfl⟩
          have : (10 : Int) ^ (Int.toNat 18) = 1000000000000000000 := by decide
          omega
        · simp only [ok_ok, kDrop_ap, kRet_ap, kSet_ap, kCons2_ap, kCons_ap, kTup_ap, kLst_ap, kVal_ap, kNew_ap, kBin2_ap, kBin_ap, kUn_ap, kCall_ap, kCallL_ap, kNotT_ap, kAndT_ap, kOrT_ap, kIf_ap, kIfS_ap, kAnd_ap, kOr_ap, kNot_ap, kMt2_ap, kMt_ap, kPut4_ap, kPut3_ap, kPut2_ap, kPut_ap, kExt2_ap, kExt_ap, kAsg2_ap, kAsg_ap, kFor_ap, kLc_ap, kSl3_ap, kSl2_ap, kSl_ap, kGs_ap, ok_seq, sq_next, sq_ret, sq_brk, sq_cont, ok_nop, ok_brk, ok_cont, ok_drop, ok_ret, ok_retN, ok_set, ok_var0, ok_varS, ok_c, ok_nil, ok_cons, ok_tup, ok_lst, ok_val, ok_new, ok_bin, ok_un, ok_call, ok_callL, ok_test, tst_bl, ok_notT, ok_andT, ok_orT, ok_if, ok_ifS, ok_and, ok_or, ok_not, ok_mt, ok_put, ok_extend, pr2_mk, ok_par2, ok_asg, ok_for, ok_lc, ok_yes, ok_noPart, prt_int, ok_part, ok_sl, ok_gNm, ok_gTp, ok_gsN, ok_gsC, rg1_mk, rg2_mk, ok_rng1, ok_rng2, srcK_tup, srcK_ls, ok_src, finK_next, finK_ret, List.set_cons_zero, List.set_cons_succ, List.map_cons, List.map_nil, List.replicate, List.cons_append, List.nil_append, List.length_cons, List.length_nil, Bool.false_eq_true, eq_self, if_true, if_false, Nat.zero_add, okX_non, okX_bl, okX_int, okX_str, okX_tup, okX_ls, okX_loc, true_and] at tl; exact tl
      · simp only [ok_ok, kDrop_ap, kRet_ap, kSet_ap, kCons2_ap, kCons_ap, kTup_ap, kLst_ap, kVal_ap, kNew_ap, kBin2_ap, kBin_ap, kUn_ap, kCall_ap, kCallL_ap, kNotT_ap, kAndT_ap, kOrT_ap, kIf_ap, kIfS_ap, kAnd_ap, kOr_ap, kNot_ap, kMt2_ap, kMt_ap, kPut4_ap, kPut3_ap, kPut2_ap, kPut_ap, kExt2_ap, kExt_ap, kAsg2_ap, kAsg_ap, kFor_ap, kLc_ap, kSl3_ap, kSl2_ap, kSl_ap, kGs_ap, ok_seq, sq_next, sq_ret, sq_brk, sq_cont, ok_nop, ok_brk, ok_cont, ok_drop, ok_ret, ok_retN, ok_set, ok_var0, ok_varS, ok_c, ok_nil, ok_cons, ok_tup, ok_lst, ok_val, ok_new, ok_bin, ok_un, ok_call, ok_callL, ok_test, tst_bl, ok_notT, ok_andT, ok_orT, ok_if, ok_ifS, ok_and, ok_or, ok_not, ok_mt, ok_put, ok_extend, pr2_mk, ok_par2, ok_asg, ok_for, ok_lc, ok_yes, ok_noPart, prt_int, ok_part, ok_sl, ok_gNm, ok_gTp, ok_gsN, ok_gsC, rg1_mk, rg2_mk, ok_rng1, ok_rng2, srcK_tup, srcK_ls, ok_src, finK_next, finK_ret, List.set_cons_zero, List.set_cons_succ, List.map_cons, List.map_nil, List.replicate, List.cons_append, List.nil_append, List.length_cons, List.length_nil, Bool.false_eq_true, eq_self, if_true, if_false, Nat.zero_add, okX_non, okX_bl, okX_int, okX_str, okX_tup, okX_ls, okX_loc, true_and] at tl; exact tl
    split
    · rename_i h1 h2
      have hl : 0 < (t.cells.length : Int) := by simpa using h2
      simp only [ok_ok, kDrop_ap, kRet_ap, kSet_ap, kCons2_ap, kCons_ap, kTup_ap, kLst_ap, kVal_ap, kNew_ap, kBin2_ap, kBin_ap, kUn_ap, kCall_ap, kCallL_ap, kNotT_ap, kAndT_ap, kOrT_ap, kIf_ap, kIfS_ap, kAnd_ap, kOr_ap, kNot_ap, kMt2_ap, kMt_ap, kPut4_ap, kPut3_ap, kPut2_ap, kPut_ap, kExt2_ap, kExt_ap, kAsg2_ap, kAsg_ap, kFor_ap, kLc_ap, kSl3_ap, kSl2_ap, kSl_ap, kGs_ap, ok_seq, sq_next, sq_ret, sq_brk, sq_cont, ok_nop, ok_brk, ok_cont, ok_drop, ok_ret, ok_retN, ok_set, ok_var0, ok_varS, ok_c, ok_nil, ok_cons, ok_tup, ok_lst, ok_val, ok_new, ok_bin, ok_un, ok_call, ok_callL, ok_test, tst_bl, ok_notT, ok_andT, ok_orT, ok_if, ok_ifS, ok_and, ok_or, ok_not, ok_mt, ok_put, ok_extend, pr2_mk, ok_par2, ok_asg, ok_for, ok_lc, ok_yes, ok_noPart, prt_int, ok_part, ok_sl, ok_gNm, ok_gTp, ok_gsN, ok_gsC, rg1_mk, rg2_mk, ok_rng1, ok_rng2, srcK_tup, srcK_ls, ok_src, finK_next, finK_ret, List.set_cons_zero, List.set_cons_succ, List.map_cons, List.map_nil, List.replicate, List.cons_append, List.nil_append, List.length_cons, List.length_nil, Bool.false_eq_true, eq_self, if_true, if_false, Nat.zero_add, okX_non, okX_bl, okX_int, okX_str, okX_tup, okX_ls, okX_loc, true_and, mod_ok h2]
      have e1 : 0 ≤ t.spot % ((t.cells.map Dv.int).length : Int) := Int.emod_nonneg _ (by omega)
      have e2 : t.spot % ((t.cells.map Dv.int).length : Int) < (t.cells.map Dv.int).length := Int.emod_lt_of_pos _ (by omega)
      have e3 : (t.spot % ((t.cells.map Dv.int).length : Int)).toNat < t.cells.length := by rw [List.length_map] at *; omega
      rw [ix_ls (d := .int t.cells[(t.spot % ((t.cells.map Dv.int).length : Int)).toNat]) e1 (by rw [List.getElem?_map, List.getElem?_eq_getElem e3]; rfl)]
      exact mid _
    · have tl := mid 5
      simp only [ok_ok, kDrop_ap, kRet_ap, kSet_ap, kCons2_ap, kCons_ap, kTup_ap, kLst_ap, kVal_ap, kNew_ap, kBin2_ap, kBin_ap, kUn_ap, kCall_ap, kCallL_ap, kNotT_ap, kAndT_ap, kOrT_ap, kIf_ap, kIfS_ap, kAnd_ap, kOr_ap, kNot_ap, kMt2_ap, kMt_ap, kPut4_ap, kPut3_ap, kPut2_ap, kPut_ap, kExt2_ap, kExt_ap, kAsg2_ap, kAsg_ap, kFor_ap, kLc_ap, kSl3_ap, kSl2_ap, kSl_ap, kGs_ap, ok_seq, sq_next, sq_ret, sq_brk, sq_cont, ok_nop, ok_brk, ok_cont, ok_drop, ok_ret, ok_retN, ok_set, ok_var0, ok_varS, ok_c, ok_nil, ok_cons, ok_tup, ok_lst, ok_val, ok_new, ok_bin, ok_un, ok_call, ok_callL, ok_test, tst_bl, ok_notT, ok_andT, ok_orT, ok_if, ok_ifS, ok_and, ok_or, ok_not, ok_mt, ok_put, ok_extend, pr2_mk, ok_par2, ok_asg, ok_for, ok_lc, ok_yes, ok_noPart, prt_int, ok_part, ok_sl, ok_gNm, ok_gTp, ok_gsN, ok_gsC, rg1_mk, rg2_mk, ok_rng1, ok_rng2, srcK_tup, srcK_ls, ok_src, finK_next, finK_ret, List.set_cons_zero, List.set_cons_succ, List.map_cons, List.map_nil, List.replicate, List.cons_append, List.nil_append, List.length_cons, List.length_nil, Bool.false_eq_true, eq_self, if_true, if_false, Nat.zero_add, okX_non, okX_bl, okX_int, okX_str, okX_tup, okX_ls, okX_loc, true_and, len_ls] at tl
      exact tl
end Z

namespace Z
open PySem PySem.Spec PyProof.Rows L2

/-! ### places of the store behind a base -/
theorem st_get {t : Ob} {r l : Sto} {k : Nat} : (t :: (r ++ l))[r.length + (k + 1)]? = l[k]? := by
  rw [show r.length + (k + 1) = (r.length + k) + 1 by omega, List.getElem?_cons_succ, List.getElem?_append_right (by omega), Nat.add_sub_cancel_left]
theorem st_set {t o : Ob} {r l : Sto} {k : Nat} : (t :: (r ++ l)).set (r.length + (k + 1)) o = t :: (r ++ l.set k o) := by
  rw [show r.length + (k + 1) = (r.length + k) + 1 by omega, List.set_cons_succ, List.set_append_right _ _ (by omega), Nat.add_sub_cancel_left]
theorem st_get1 {t o : Ob} {r l : Sto} : (t :: (r ++ o :: l))[r.length + 1]? = some o := st_get (k := 0)
theorem st_set1 {t o o' : Ob} {r l : Sto} : (t :: (r ++ o :: l)).set (r.length + 1) o' = t :: (r ++ o' :: l) := st_set (k := 0)
theorem isL_loc {n : Nat} {ds : List Dv} {s : Sto} (h : s[n]? = some (.lst ds)) : isL (.loc n) s = true := by
  show (match s[n]? with | some (.lst _) => true | _ => false) = true
  rw [h]
theorem append_loc {n : Nat} {ds : List Dv} {d : Dv} {s : Sto} (h : s[n]? = some (.lst ds)) (hl : ds.length < 16777216) : gAppend (.loc n) [d] s = .ok .non (s.set n (.lst (ds ++ [d]))) := by
  show (match s[n]? with | some (.lst ds) => _ | _ => _) = _
  rw [h]
  show Rs.iff (decide (ds.length < 16777216)) _ = _
  rw [decide_eq_true hl]; rfl
theorem ixN_nat {n : Nat} {i : Int} (h0 : 0 ≤ i) (h : i < n) : ixN n i = some i.toNat := by
  unfold ixN; rw [if_pos h0, if_pos h]
theorem popAt_loc {n : Nat} {ds : List Dv} {i : Int} {d : Dv} {s : Sto} (h : s[n]? = some (.lst ds)) (h0 : 0 ≤ i) (h1 : i < 1000000) (hd : ds[i.toNat]? = some d) : gPopAt (.loc n) [.int i] s = .ok d (s.set n (.lst (ds.eraseIdx i.toNat))) := by
  show (match s[n]? with | some (.lst ds) => (match ixN ds.length i with | some j => (match ds[j]? with | some d => Rs.iff (inRng i) (.ok d (s.set n (.lst (ds.eraseIdx j)))) | none => .bad) | none => .bad) | _ => .bad) = _
  rw [h]
  have hl := (List.getElem?_eq_some_iff.mp hd).1
  show (match ixN ds.length i with | some j => (match ds[j]? with | some d => Rs.iff (inRng i) (Rs.ok d (s.set n (.lst (ds.eraseIdx j)))) | none => .bad) | none => .bad) = _
  rw [ixN_nat h0 (by omega)]
  show (match ds[i.toNat]? with | some d => Rs.iff (inRng i) (Rs.ok d (s.set n (.lst (ds.eraseIdx i.toNat)))) | none => .bad) = _
  rw [hd]
  show Rs.iff (inRng i) _ = _
  have : inRng i = true := by
    unfold inRng
    rw [Bool.and_eq_true, decide_eq_true_eq, decide_eq_true_eq]
    constructor <;> omega
  rw [this]; rfl
theorem len_loc {n : Nat} {ds : List Dv} {s : Sto} (h : s[n]? = some (.lst ds)) : gLen [.loc n] s = .ok (.int ds.length) s := by
  show (match (match s[n]? with | some (.lst ds) => some ds | _ => none) with | some ds => Rs.ok (Dv.int ds.length) s | none => .bad) = _
  rw [h]
theorem tuple_ls {ds : List Dv} {s : Sto} : gTuple [.ls ds] s = .ok (.tup ds) s := rfl
theorem tuple_loc {n : Nat} {ds : List Dv} {s : Sto} (h : s[n]? = some (.lst ds)) : gTuple [.loc n] s = .ok (.tup ds) s := by
  show (match (match s[n]? with | some (.lst ds) => some ds | _ => none) with | some ds => Rs.ok (Dv.tup ds) s | none => .bad) = _
  rw [h]
theorem belows_strs (n : Nat) : ∀ zs : List Str, belows n (zs.map .str) = true
  | [] => rfl
  | z :: r => by
    show (below n (.str z) && belows n (r.map .str)) = true
    rw [belows_strs n r]; rfl
theorem below_tup {n : Nat} {ds : List Dv} (h : belows n ds = true) : below n (.tup ds) = true := by simpa [below] using h
theorem below_ls {n : Nat} {ds : List Dv} (h : belows n ds = true) : below n (.ls ds) = true := by simpa [below] using h
theorem belows_cons {n : Nat} {d : Dv} {ds : List Dv} (h : below n d = true) (h2 : belows n ds = true) : belows n (d :: ds) = true := by simp [belows, h, h2]
theorem Fl.app {r l : Sto} (h : Fl r) (h2 : Fl l) : Fl (r ++ l) := fun o ho => (List.mem_append.mp ho).elim (h o) (h2 o)
theorem Fl.one {ds : List Dv} (h : belows 0 ds = true) : Fl [.lst ds] := fun o ho => by rw [List.mem_singleton.mp ho]; exact h
theorem Fl.nil : Fl [] := fun o ho => by cases ho
theorem Fl.two {ds es : List Dv} (h : belows 0 ds = true) (h2 : belows 0 es = true) : Fl [.lst ds, .lst es] := fun o ho => by
  rcases List.mem_cons.mp ho with z | z
  · rw [z]; exact h
  · rw [List.mem_singleton.mp z]; exact h2
theorem inRng_small {i : Int} (h0 : -1000000000 ≤ i) (h1 : i < 1000000000) : inRng i = true := by
  unfold inRng
  rw [Bool.and_eq_true, decide_eq_true_eq, decide_eq_true_eq]
  constructor <;> omega
theorem str_get {xs : List Str} {j : Nat} (h : j < xs.length) : (xs.map Dv.str)[j]? = some (.str xs[j]) := by rw [List.getElem?_map, List.getElem?_eq_getElem h]; rfl
/-- the end of a def whose locals are let go -/
theorem fin_tap {t : Tap} {r l : Sto} {d : Dv} {T : Dv → Sto → Prop} (hf : Fl r) (hd : below 0 d = true) (h : T d (tapOb t :: r)) : OkE nX (gcZ (r.length + 1) d (tapOb t :: (r ++ l))) T :=
  ok_gc (b := tapOb t :: r) rfl hf.tap (below_mono (Nat.zero_le _) hd) h
theorem map_erase {α β : Type} (f : α → β) : ∀ (l : List α) (i : Nat), (l.map f).eraseIdx i = (l.eraseIdx i).map f
  | [], _ => rfl
  | _ :: _, 0 => rfl
  | x :: l, i + 1 => by
    show f x :: (l.map f).eraseIdx i = f x :: (l.eraseIdx i).map f
    rw [map_erase f l i]
theorem erase_perm {α : Type} : ∀ (l : List α) (i : Nat) (h : i < l.length), (l[i] :: l.eraseIdx i).Perm l
  | x :: l, 0, _ => List.Perm.refl _
  | x :: l, i + 1, h => by
    show (l[i]'(by simpa using h) :: x :: l.eraseIdx i).Perm (x :: l)
    exact (List.Perm.swap x _ _).trans ((erase_perm l i (by simpa using h)).cons x)

/-! ### some names -/
def pool10 : List Str := [Str.ofString "a", Str.ofString "ab", Str.ofString "abc", Str.ofString "b", Str.ofString "bell", Str.ofString "told", Str.ofString "x", Str.ofString "zz", Str.ofString "zzzzzzzz", Str.ofString "as"]
theorem pool10_nd : pool10.Nodup := by decide +kernel
def bLots (φt : Phi) : Fn Ct :=
  fSeq (fSet 2 (fNew (fLst (fCons (fC (.str (Str.ofString "a"))) (fCons (fC (.str (Str.ofString "ab"))) (fCons (fC (.str (Str.ofString "abc"))) (fCons (fC (.str (Str.ofString "b"))) (fCons (fC (.str (Str.ofString "bell"))) (fCons (fC (.str (Str.ofString "told"))) (fCons (fC (.str (Str.ofString "x"))) (fCons (fC (.str (Str.ofString "zz"))) (fCons (fC (.str (Str.ofString "zzzzzzzz"))) (fCons (fC (.str (Str.ofString "as"))) (fNil))))))))))))))
  (fRet (fCall gTuple (fCons (fVal (fLc (fRng1 (fCons (fVar 1) (fNil))) [3] (gNm 3) (fYes) (fMt isL gPopAt (fVar 2) (fCons (fCall φt (fCons (fVar 0) (fCons (fCall gLen (fCons (fVar 2) (fNil))) (fNil)))) (fNil))))) (fNil))))
def LotsS (φ : Phi) : Prop := ∀ (t : Tap) (r : Sto) (m : Int), t.Wf → t.calls + m ≤ 1000000 → 0 ≤ m → m ≤ 10 → Fl r → OkE nX (φ [.loc 0, .int m] (tapOb t :: r)) fun d s' => ∃ (xs : List Str) (t' : Tap), d = .tup (xs.map .str) ∧ (xs.length : Int) = m ∧ xs.Nodup ∧ (∀ x ∈ xs, x ∈ pool10) ∧
  s' = tapOb t' :: r ∧ t'.Wf ∧ t.calls ≤ t'.calls ∧ t'.calls ≤ t.calls + m
theorem lots_spec {φt : Phi} (ht : TakeS φt) : LotsS (fDef 2 4 (bLots φt)) := by
  intro t r m hw hc hm0 hm hf
  rw [ok_def]
  refine ⟨rfl, ?_⟩
  unfold bLots
  simp only [ok_ok, kDrop_ap, kRet_ap, kSet_ap, kCons2_ap, kCons_ap, kTup_ap, kLst_ap, kVal_ap, kNew_ap, kBin2_ap, kBin_ap, kUn_ap, kCall_ap, kCallL_ap, kNotT_ap, kAndT_ap, kOrT_ap, kIf_ap, kIfS_ap, kAnd_ap, kOr_ap, kNot_ap, kMt2_ap, kMt_ap, kPut4_ap, kPut3_ap, kPut2_ap, kPut_ap, kExt2_ap, kExt_ap, kAsg2_ap, kAsg_ap, kFor_ap, kLc_ap, kSl3_ap, kSl2_ap, kSl_ap, kGs_ap, ok_seq, sq_next, sq_ret, sq_brk, sq_cont, ok_nop, ok_brk, ok_cont, ok_drop, ok_ret, ok_retN, ok_set, ok_var0, ok_varS, ok_c, ok_nil, ok_cons, ok_tup, ok_lst, ok_val, ok_new, ok_bin, ok_un, ok_call, ok_callL, ok_test, tst_bl, ok_notT, ok_andT, ok_orT, ok_if, ok_ifS, ok_and, ok_or, ok_not, ok_mt, ok_put, ok_extend, pr2_mk, ok_par2, ok_asg, ok_for, ok_lc, ok_yes, ok_noPart, prt_int, ok_part, ok_sl, ok_gNm, ok_gTp, ok_gsN, ok_gsC, rg1_mk, rg2_mk, ok_rng1, ok_rng2, srcK_tup, srcK_ls, ok_src, finK_next, finK_ret, List.set_cons_zero, List.set_cons_succ, List.map_cons, List.map_nil, List.replicate, List.cons_append, List.nil_append, List.length_cons, List.length_nil, Bool.false_eq_true, eq_self, if_true, if_false, Nat.zero_add, okX_non, okX_bl, okX_int, okX_str, okX_tup, okX_ls, okX_loc, true_and]
  refine ⟨by decide, ?_⟩
  refine ⟨inRng_small (by omega) (by omega), ?_⟩
  simp only [ok_ok, kDrop_ap, kRet_ap, kSet_ap, kCons2_ap, kCons_ap, kTup_ap, kLst_ap, kVal_ap, kNew_ap, kBin2_ap, kBin_ap, kUn_ap, kCall_ap, kCallL_ap, kNotT_ap, kAndT_ap, kOrT_ap, kIf_ap, kIfS_ap, kAnd_ap, kOr_ap, kNot_ap, kMt2_ap, kMt_ap, kPut4_ap, kPut3_ap, kPut2_ap, kPut_ap, kExt2_ap, kExt_ap, kAsg2_ap, kAsg_ap, kFor_ap, kLc_ap, kSl3_ap, kSl2_ap, kSl_ap, kGs_ap, ok_seq, sq_next, sq_ret, sq_brk, sq_cont, ok_nop, ok_brk, ok_cont, ok_drop, ok_ret, ok_retN, ok_set, ok_var0, ok_varS, ok_c, ok_nil, ok_cons, ok_tup, ok_lst, ok_val, ok_new, ok_bin, ok_un, ok_call, ok_callL, ok_test, tst_bl, ok_notT, ok_andT, ok_orT, ok_if, ok_ifS, ok_and, ok_or, ok_not, ok_mt, ok_put, ok_extend, pr2_mk, ok_par2, ok_asg, ok_for, ok_lc, ok_yes, ok_noPart, prt_int, ok_part, ok_sl, ok_gNm, ok_gTp, ok_gsN, ok_gsC, rg1_mk, rg2_mk, ok_rng1, ok_rng2, srcK_tup, srcK_ls, ok_src, finK_next, finK_ret, List.set_cons_zero, List.set_cons_succ, List.map_cons, List.map_nil, List.replicate, List.cons_append, List.nil_append, List.length_cons, List.length_nil, Bool.false_eq_true, eq_self, if_true, if_false, Nat.zero_add, okX_non, okX_bl, okX_int, okX_str, okX_tup, okX_ls, okX_loc, true_and, rngD_len]
  refine ⟨decide_eq_true (by omega), ?_⟩
  refine ok_lcI (fun i acc s => ∃ (t' : Tap) (xs pool : List Str), acc = xs.map .str ∧ s = tapOb t' :: (r ++ [.lst (pool.map .str)]) ∧ xs.length = i ∧ (xs ++ pool).Perm pool10 ∧ t'.Wf ∧ t'.calls = t.calls + i)
    (fun _ _ _ _ => rfl) (fun i d acc s hd h => ?_) (fun acc s h => ?_) ⟨t, [], pool10, rfl, rfl, rfl, List.Perm.refl _, hw, by simp⟩
  · obtain ⟨t', xs, pool, rfl, rfl, rfl, hp, hw', hc'⟩ := h
    obtain ⟨hi, rfl⟩ := rngD_get hd
    have hpl : xs.length + pool.length = 10 := by rw [← List.length_append, hp.length_eq]; rfl
    have hl : (tapOb t' :: (r ++ [Ob.lst (pool.map .str)]))[r.length + 1]? = some (.lst (pool.map .str)) := st_get1
    simp only [ok_ok, kDrop_ap, kRet_ap, kSet_ap, kCons2_ap, kCons_ap, kTup_ap, kLst_ap, kVal_ap, kNew_ap, kBin2_ap, kBin_ap, kUn_ap, kCall_ap, kCallL_ap, kNotT_ap, kAndT_ap, kOrT_ap, kIf_ap, kIfS_ap, kAnd_ap, kOr_ap, kNot_ap, kMt2_ap, kMt_ap, kPut4_ap, kPut3_ap, kPut2_ap, kPut_ap, kExt2_ap, kExt_ap, kAsg2_ap, kAsg_ap, kFor_ap, kLc_ap, kSl3_ap, kSl2_ap, kSl_ap, kGs_ap, ok_seq, sq_next, sq_ret, sq_brk, sq_cont, ok_nop, ok_brk, ok_cont, ok_drop, ok_ret, ok_retN, ok_set, ok_var0, ok_varS, ok_c, ok_nil, ok_cons, ok_tup, ok_lst, ok_val, ok_new, ok_bin, ok_un, ok_call, ok_callL, ok_test, tst_bl, ok_notT, ok_andT, ok_orT, ok_if, ok_ifS, ok_and, ok_or, ok_not, ok_mt, ok_put, ok_extend, pr2_mk, ok_par2, ok_asg, ok_for, ok_lc, ok_yes, ok_noPart, prt_int, ok_part, ok_sl, ok_gNm, ok_gTp, ok_gsN, ok_gsC, rg1_mk, rg2_mk, ok_rng1, ok_rng2, srcK_tup, srcK_ls, ok_src, finK_next, finK_ret, List.set_cons_zero, List.set_cons_succ, List.map_cons, List.map_nil, List.replicate, List.cons_append, List.nil_append, List.length_cons, List.length_nil, Bool.false_eq_true, eq_self, if_true, if_false, Nat.zero_add, okX_non, okX_bl, okX_int, okX_str, okX_tup, okX_ls, okX_loc, true_and, wipeZ]
    refine ⟨isL_loc hl, ?_⟩
    simp only [ok_ok, kDrop_ap, kRet_ap, kSet_ap, kCons2_ap, kCons_ap, kTup_ap, kLst_ap, kVal_ap, kNew_ap, kBin2_ap, kBin_ap, kUn_ap, kCall_ap, kCallL_ap, kNotT_ap, kAndT_ap, kOrT_ap, kIf_ap, kIfS_ap, kAnd_ap, kOr_ap, kNot_ap, kMt2_ap, kMt_ap, kPut4_ap, kPut3_ap, kPut2_ap, kPut_ap, kExt2_ap, kExt_ap, kAsg2_ap, kAsg_ap, kFor_ap, kLc_ap, kSl3_ap, kSl2_ap, kSl_ap, kGs_ap, ok_seq, sq_next, sq_ret, sq_brk, sq_cont, ok_nop, ok_brk, ok_cont, ok_drop, ok_ret, ok_retN, ok_set, ok_var0, ok_varS, ok_c, ok_nil, ok_cons, ok_tup, ok_lst, ok_val, ok_new, ok_bin, ok_un, ok_call, ok_callL, ok_test, tst_bl, ok_notT, ok_andT, ok_orT, ok_if, ok_ifS, ok_and, ok_or, ok_not, ok_mt, ok_put, ok_extend, pr2_mk, ok_par2, ok_asg, ok_for, ok_lc, ok_yes, ok_noPart, prt_int, ok_part, ok_sl, ok_gNm, ok_gTp, ok_gsN, ok_gsC, rg1_mk, rg2_mk, ok_rng1, ok_rng2, srcK_tup, srcK_ls, ok_src, finK_next, finK_ret, List.set_cons_zero, List.set_cons_succ, List.map_cons, List.map_nil, List.replicate, List.cons_append, List.nil_append, List.length_cons, List.length_nil, Bool.false_eq_true, eq_self, if_true, if_false, Nat.zero_add, okX_non, okX_bl, okX_int, okX_str, okX_tup, okX_ls, okX_loc, true_and, len_loc hl]
    refine (ht t' (r ++ [.lst (pool.map .str)]) ((pool.map Dv.str).length : Int) hw' (by omega) (by rw [List.length_map]; omega) (by rw [List.length_map]; omega) (hf.app (.one (belows_strs _ _)))).mono ?_
    rintro d s ⟨x, t2, rfl, hx0, hx1, rfl, hw2, hc2⟩
    rw [List.length_map] at hx1
    have hxn : x.toNat < pool.length := by omega
    simp only [ok_ok, kDrop_ap, kRet_ap, kSet_ap, kCons2_ap, kCons_ap, kTup_ap, kLst_ap, kVal_ap, kNew_ap, kBin2_ap, kBin_ap, kUn_ap, kCall_ap, kCallL_ap, kNotT_ap, kAndT_ap, kOrT_ap, kIf_ap, kIfS_ap, kAnd_ap, kOr_ap, kNot_ap, kMt2_ap, kMt_ap, kPut4_ap, kPut3_ap, kPut2_ap, kPut_ap, kExt2_ap, kExt_ap, kAsg2_ap, kAsg_ap, kFor_ap, kLc_ap, kSl3_ap, kSl2_ap, kSl_ap, kGs_ap, ok_seq, sq_next, sq_ret, sq_brk, sq_cont, ok_nop, ok_brk, ok_cont, ok_drop, ok_ret, ok_retN, ok_set, ok_var0, ok_varS, ok_c, ok_nil, ok_cons, ok_tup, ok_lst, ok_val, ok_new, ok_bin, ok_un, ok_call, ok_callL, ok_test, tst_bl, ok_notT, ok_andT, ok_orT, ok_if, ok_ifS, ok_and, ok_or, ok_not, ok_mt, ok_put, ok_extend, pr2_mk, ok_par2, ok_asg, ok_for, ok_lc, ok_yes, ok_noPart, prt_int, ok_part, ok_sl, ok_gNm, ok_gTp, ok_gsN, ok_gsC, rg1_mk, rg2_mk, ok_rng1, ok_rng2, srcK_tup, srcK_ls, ok_src, finK_next, finK_ret, List.set_cons_zero, List.set_cons_succ, List.map_cons, List.map_nil, List.replicate, List.cons_append, List.nil_append, List.length_cons, List.length_nil, Bool.false_eq_true, eq_self, if_true, if_false, Nat.zero_add, okX_non, okX_bl, okX_int, okX_str, okX_tup, okX_ls, okX_loc, true_and]
    rw [popAt_loc (d := .str pool[x.toNat]) (ds := pool.map .str) st_get1 hx0 (by omega) (str_get hxn), ok_ok, st_set1]
    refine ⟨t2, xs ++ [pool[x.toNat]], pool.eraseIdx x.toNat, by simp, by rw [map_erase], by simp, ?_, hw2, by rw [hc2, hc']; push_cast; omega⟩
    rw [List.append_assoc]
    refine List.Perm.trans (List.Perm.append_left _ ?_) hp
    show (pool[x.toNat] :: pool.eraseIdx x.toNat).Perm pool
    exact erase_perm pool x.toNat hxn
  · obtain ⟨t', xs, pool, rfl, rfl, hxl, hp, hw', hc'⟩ := h
    rw [rngD_len] at hxl hc'
    have hnd : (xs ++ pool).Nodup := hp.nodup_iff.mpr pool10_nd
    simp only [ok_ok, kDrop_ap, kRet_ap, kSet_ap, kCons2_ap, kCons_ap, kTup_ap, kLst_ap, kVal_ap, kNew_ap, kBin2_ap, kBin_ap, kUn_ap, kCall_ap, kCallL_ap, kNotT_ap, kAndT_ap, kOrT_ap, kIf_ap, kIfS_ap, kAnd_ap, kOr_ap, kNot_ap, kMt2_ap, kMt_ap, kPut4_ap, kPut3_ap, kPut2_ap, kPut_ap, kExt2_ap, kExt_ap, kAsg2_ap, kAsg_ap, kFor_ap, kLc_ap, kSl3_ap, kSl2_ap, kSl_ap, kGs_ap, ok_seq, sq_next, sq_ret, sq_brk, sq_cont, ok_nop, ok_brk, ok_cont, ok_drop, ok_ret, ok_retN, ok_set, ok_var0, ok_varS, ok_c, ok_nil, ok_cons, ok_tup, ok_lst, ok_val, ok_new, ok_bin, ok_un, ok_call, ok_callL, ok_test, tst_bl, ok_notT, ok_andT, ok_orT, ok_if, ok_ifS, ok_and, ok_or, ok_not, ok_mt, ok_put, ok_extend, pr2_mk, ok_par2, ok_asg, ok_for, ok_lc, ok_yes, ok_noPart, prt_int, ok_part, ok_sl, ok_gNm, ok_gTp, ok_gsN, ok_gsC, rg1_mk, rg2_mk, ok_rng1, ok_rng2, srcK_tup, srcK_ls, ok_src, finK_next, finK_ret, List.set_cons_zero, List.set_cons_succ, List.map_cons, List.map_nil, List.replicate, List.cons_append, List.nil_append, List.length_cons, List.length_nil, Bool.false_eq_true, eq_self, if_true, if_false, Nat.zero_add, okX_non, okX_bl, okX_int, okX_str, okX_tup, okX_ls, okX_loc, true_and, tuple_ls]
    refine fin_tap hf (below_tup (belows_strs _ _)) ⟨xs, t', rfl, by omega, (List.nodup_append.mp hnd).1, fun x hx => hp.mem_iff.mp (List.mem_append.mpr (.inl hx)), rfl, hw', by omega, by omega⟩
end Z

namespace Z
open PySem PySem.Spec PyProof.Rows L2

/-! ### sorted texts -/
def srtS (xs : List Str) : List Str := xs.mergeSort (PySem.W.dataLe false fun x => .str x)
theorem srtS_perm (xs : List Str) : (srtS xs).Perm xs := List.mergeSort_perm _ _
theorem sortD_map {α : Type} (f : α → Dv) (g : α → PyData) (xs : List α) : sortD (xs.map f) (xs.map g) = (xs.mergeSort (PySem.W.dataLe false g)).map f := by
  unfold sortD
  rw [show (xs.map f).zip (xs.map g) = xs.map fun x => (f x, g x) by induction xs with | nil => rfl | cons x l ih => simp [ih]]
  rw [← List.map_mergeSort (r := PySem.W.dataLe false g) (f := fun x => (f x, g x)) (fun _ _ _ _ => rfl), List.map_map]
  rfl
theorem mapM_map {α β γ : Type} {f : α → β} {g : β → Option γ} {h : α → γ} : ∀ {xs : List α}, (∀ x ∈ xs, g (f x) = some (h x)) → (xs.map f).mapM g = some (xs.map h)
  | [], _ => rfl
  | x :: l, hh => by
    rw [List.map_cons, List.mapM_cons, hh x List.mem_cons_self, mapM_map (xs := l) fun y hy => hh y (List.mem_cons_of_mem _ hy)]
    rfl
theorem cut_take {ds : List Dv} {k : Int} (h : 0 ≤ k) : cutD ds none (some k) = ds.take k.toNat := by
  unfold cutD
  have e : HT.sIx ds.length ds.length (some k) = min k.toNat ds.length := by
    have := HT.sIx_nat ds.length ds.length k.toNat
    rwa [Int.toNat_of_nonneg h] at this
  rw [e]
  show (ds.drop 0).take (min k.toNat ds.length - 0) = _
  rw [List.drop_zero, Nat.sub_zero, List.take_eq_take_iff]; omega
/-! ### some of the names -/
def bOthers (φt : Phi) : Fn Ct :=
  fRet (fCall gTuple (fCons (fVal (fCallL gSorted (fCons (fSl (fVal (fLc (fSrc (fVar 1)) [4] (gNm 4) (fAndT (fTest (fBin gNe (fVar 4) (fVar 2))) (fTest (fBin gEq (fCall φt (fCons (fVar 0) (fCons (fC (.int 2)) (fNil)))) (fC (.int 0))))) (fVar 4))) (fNoPart) (fPart (fVar 3))) (fNil)))) (fNil)))
def OthersS (φ : Phi) : Prop := ∀ (t : Tap) (r : Sto) (lots : List Str) (name : Str) (most : Int), t.Wf → t.calls + lots.length ≤ 1000000 → lots.length ≤ 1000 → 0 ≤ most → Fl r →
  OkE nX (φ [.loc 0, .tup (lots.map .str), .str name, .int most] (tapOb t :: r)) fun d s' => ∃ (ws : List Str) (t' : Tap), d = .tup ((srtS ws).map .str) ∧ ws.Sublist lots ∧ name ∉ ws ∧ (ws.length : Int) ≤ most ∧
  s' = tapOb t' :: r ∧ t'.Wf ∧ t.calls ≤ t'.calls ∧ t'.calls ≤ t.calls + lots.length
theorem take_succ' {α : Type} {l : List α} {i : Nat} {x : α} (h : l[i]? = some x) : l.take (i + 1) = l.take i ++ [x] := by
  rw [List.take_succ, h]; rfl
def bNames (φt : Phi) : Fn Ct :=
  fSeq (fSet 2 (fVal (fLc (fSrc (fVar 1)) [3] (gNm 3) (fTest (fBin gEq (fCall φt (fCons (fVar 0) (fCons (fC (.int 2)) (fNil)))) (fC (.int 0)))) (fVar 3))))
  (fSeq (fIfS (fTest (fBin gEq (fVar 2) (fVal (fLst (fNil))))) (fSet 2 (fVal (fLst (fCons (fBin gIx (fVar 1) (fCall φt (fCons (fVar 0) (fCons (fCall gLen (fCons (fVar 1) (fNil))) (fNil))))) (fNil))))) (fNop))
  (fRet (fCall gTuple (fCons (fVal (fCallL gSorted (fCons (fVar 2) (fNil)))) (fNil)))))
def NamesS (φ : Phi) : Prop := ∀ (t : Tap) (r : Sto) (lots : List Str), (∀ x ∈ lots, x ∈ pool10) → t.Wf → t.calls + lots.length + 1 ≤ 1000000 → lots.length ≤ 1000 → 1 ≤ lots.length → Fl r →
  OkE nX (φ [.loc 0, .tup (lots.map .str)] (tapOb t :: r)) fun d s' => ∃ (ws : List Str) (t' : Tap), d = .tup ((srtS ws).map .str) ∧ ws.Sublist lots ∧ ws ≠ [] ∧
  s' = tapOb t' :: r ∧ t'.Wf ∧ t.calls ≤ t'.calls ∧ t'.calls ≤ t.calls + lots.length + 1
end Z

namespace Z
open PySem PySem.Spec PyProof.Rows L2

/-! ### words -/
def lettersS : Str := Str.ofString "abcdefghijklmnopqrstuvwxyz"
def isLet (c : Nat) : Bool := decide (c ∈ lettersS.cps.toList)
def isWordS (z : Str) : Bool := decide (1 ≤ z.length) && decide (z.length ≤ 8) && z.cps.toList.all isLet
/-! ### a count -/
structure Pil where
  name : Str
  many : Int
  slip : Int
  others : List Str
def encS (xs : List Str) : Dv := .tup (xs.map .str)
def encP (p : Pil) : Dv := .tup [.str p.name, .int p.many, .int p.slip, encS p.others]
structure Cnt where
  lots : List Str
  piles : List Pil
  doubts : List (List Str)
def encC (c : Cnt) : Dv := .tup [encS c.lots, .tup (c.piles.map encP), .tup (c.doubts.map encS)]
structure PilOk (lots : List Str) (p : Pil) : Prop where
  name : p.name ∈ lots
  many0 : 0 ≤ p.many
  many1 : p.many ≤ 1000000
  slip0 : 0 ≤ p.slip
  slip1 : p.slip ≤ 10000
  others : p.others = [] ∨ ∃ ws : List Str, p.others = srtS ws ∧ ws.Sublist lots ∧ p.name ∉ ws ∧ ws.length ≤ 2
structure CntOk (c : Cnt) : Prop where
  len2 : 2 ≤ c.lots.length
  len6 : c.lots.length ≤ 6
  nd : c.lots.Nodup
  pool : ∀ x ∈ c.lots, isWordS x = true
  piles : ∀ p ∈ c.piles, PilOk c.lots p
  npiles : c.piles.length ≤ 10
  few : (c.piles.filter fun p => !p.others.isEmpty).length ≤ 3
  doubts : ∀ d ∈ c.doubts, ∃ ws : List Str, d = srtS ws ∧ ws.Sublist c.lots ∧ ws ≠ []
  ndoubts : c.doubts.length ≤ 12
  pl : ∀ x ∈ c.lots, x ∈ pool10
theorem below_encS (n : Nat) (xs : List Str) : below n (encS xs) = true := below_tup (belows_strs n xs)
def bCount (φt φl φo φn : Phi) : Fn Ct :=
  fSeq (fSet 1 (fCall φl (fCons (fVar 0) (fCons (fBin gAdd (fC (.int 2)) (fCall φt (fCons (fVar 0) (fCons (fC (.int 5)) (fNil))))) (fNil)))))
  (fSeq (fPar2 2 3 (fCons (fNew (fLst (fNil))) (fCons (fC (.int 0)) (fNil))))
  (fSeq (fFor (fRng1 (fCons (fBin gIx (fVal (fLst (fCons (fCall φt (fCons (fVar 0) (fCons (fC (.int 4)) (fNil)))) (fCons (fCall φt (fCons (fVar 0) (fCons (fC (.int 11)) (fNil)))) (fNil))))) (fCall φt (fCons (fVar 0) (fCons (fC (.int 2)) (fNil))))) (fNil))) (gNm 4) (fSeq (fSet 5 (fBin gIx (fVar 1) (fCall φt (fCons (fVar 0) (fCons (fCall gLen (fCons (fVar 1) (fNil))) (fNil))))))
  (fSeq (fSet 6 (fBin gIx (fVal (fLst (fCons (fC (.int 0)) (fCons (fCall φt (fCons (fVar 0) (fCons (fC (.int 5)) (fNil)))) (fCons (fCall φt (fCons (fVar 0) (fCons (fC (.int 100)) (fNil)))) (fCons (fCall φt (fCons (fVar 0) (fCons (fBin gAdd (fBin gPow (fC (.int 10)) (fC (.int 6))) (fC (.int 1))) (fNil)))) (fNil))))))) (fCall φt (fCons (fVar 0) (fCons (fC (.int 4)) (fNil))))))
  (fSeq (fSet 7 (fBin gIx (fVal (fLst (fCons (fC (.int 0)) (fCons (fC (.int 1)) (fCons (fCall φt (fCons (fVar 0) (fCons (fC (.int 4)) (fNil)))) (fCons (fCall φt (fCons (fVar 0) (fCons (fBin gAdd (fBin gPow (fC (.int 10)) (fC (.int 4))) (fC (.int 1))) (fNil)))) (fNil))))))) (fCall φt (fCons (fVar 0) (fCons (fC (.int 4)) (fNil))))))
  (fSeq (fSet 8 (fTup (fNil)))
  (fSeq (fIfS (fAndT (fTest (fBin gLt (fVar 3) (fC (.int 3)))) (fTest (fBin gEq (fCall φt (fCons (fVar 0) (fCons (fC (.int 3)) (fNil)))) (fC (.int 0))))) (fSeq (fSet 8 (fCall φo (fCons (fVar 0) (fCons (fVar 1) (fCons (fVar 5) (fCons (fC (.int 2)) (fNil)))))))
  (fSet 3 (fBin gAdd (fVar 3) (fC (.int 1))))) (fNop))
  (fDrop (fMt isL gAppend (fVar 2) (fCons (fTup (fCons (fVar 5) (fCons (fVar 6) (fCons (fVar 7) (fCons (fVar 8) (fNil)))))) (fNil))))))))))
  (fSeq (fSet 9 (fNew (fLst (fNil))))
  (fSeq (fFor (fRng1 (fCons (fBin gIx (fVal (fLst (fCons (fCall φt (fCons (fVar 0) (fCons (fC (.int 4)) (fNil)))) (fCons (fCall φt (fCons (fVar 0) (fCons (fC (.int 13)) (fNil)))) (fNil))))) (fCall φt (fCons (fVar 0) (fCons (fC (.int 2)) (fNil))))) (fNil))) (gNm 4) (fDrop (fMt isL gAppend (fVar 9) (fCons (fCall φn (fCons (fVar 0) (fCons (fVar 1) (fNil)))) (fNil)))))
  (fRet (fTup (fCons (fVar 1) (fCons (fCall gTuple (fCons (fVar 2) (fNil))) (fCons (fCall gTuple (fCons (fVar 9) (fNil))) (fNil))))))))))
def CountS (φ : Phi) : Prop := ∀ (t : Tap) (r : Sto), t.Wf → t.calls + 1000 ≤ 1000000 → Fl r →
  OkE nX (φ [.loc 0] (tapOb t :: r)) fun d s' => ∃ (c : Cnt) (t' : Tap), d = encC c ∧ CntOk c ∧ s' = tapOb t' :: r ∧ t'.Wf ∧ t.calls ≤ t'.calls ∧ t'.calls ≤ t.calls + 1000
theorem len2 {r : Sto} {a : Ob} : (r ++ [a]).length + 1 = r.length + 2 := by simp
end Z

namespace Z
open PySem PySem.Spec PyProof.Rows L2

/-! ### an end's sums -/
theorem bs_get {s l : Sto} {o : Ob} : (s ++ o :: l)[s.length]? = some o := by rw [List.getElem?_append_right (Nat.le_refl _), Nat.sub_self]; rfl
theorem bs_set {s l : Sto} {o o' : Ob} : (s ++ o :: l).set s.length o' = s ++ o' :: l := by rw [List.set_append_right _ _ (Nat.le_refl _), Nat.sub_self]; rfl
theorem fin_base {s l : Sto} {d : Dv} {T : Dv → Sto → Prop} (hf : Fl s) (hd : below 0 d = true) (h : T d s) : OkE nX (gcZ s.length d (s ++ l)) T := ok_gc rfl hf (below_mono (Nat.zero_le _) hd) h
theorem strsOf_map : ∀ xs : List Str, strsOf (xs.map .str) = some xs
  | [] => rfl
  | x :: r => by
    show (strsOf (r.map .str)).map (x :: ·) = _
    rw [strsOf_map r]; rfl
theorem index_tup {xs : List Str} {z : Str} {s : Sto} (h : z ∈ xs) : ∃ k : Nat, gIndexT (.tup (xs.map .str)) [.str z] s = .ok (.int k) s ∧ xs[k]? = some z := by
  cases e : xs.findIdx? (· == z) with
  | none =>
    have := List.findIdx?_eq_none_iff.mp e z h
    simp at this
  | some k =>
    obtain ⟨h1, h2, _⟩ := List.findIdx?_eq_some_iff_getElem.mp e
    refine ⟨k, ?_, by rw [List.getElem?_eq_getElem h1, beq_iff_eq.mp h2]⟩
    show (match strsOf (xs.map .str) with | some zs => (match zs.findIdx? (· == z) with | some j => Rs.ok (Dv.int (j : Nat)) s | none => .bad) | none => .bad) = _
    rw [strsOf_map]
    show (match xs.findIdx? (· == z) with | some j => Rs.ok (Dv.int (j : Nat)) s | none => .bad) = _
    rw [e]
def encL (x : Str × Int) : Dv := .tup [.str x.1, .int x.2]
def encE (laid : List (Str × Int)) (ds : List Str) : Dv := .tup [.tup (laid.map encL), encS ds]
def sumOf (laid : List (Str × Int)) (n : Str) : Int := (laid.map fun x => if x.1 = n then x.2 else 0).sum
def cntOf (ds : List Str) (n : Str) : Int := (ds.map fun x => if x = n then 1 else 0).sum
def tally (lots : List Str) (laid : List (Str × Int)) (ds : List Str) : List Int := lots.map fun n => sumOf laid n + cntOf ds n
def bTally : Fn Ct :=
  fSeq (fSet 2 (fBin gIx (fVar 0) (fC (.int 0))))
  (fSeq (fSet 4 (fNew (fLc (fSrc (fVar 2)) [3] (gNm 3) (fYes) (fC (.int 0)))))
  (fSeq (fFor (fSrc (fBin gIx (fVar 1) (fC (.int 0)))) (gTp 2 (gsCons (gNm 3) (gsCons (gNm 5) (gsNil)))) (fAug (fun i j => i + j) (fVar 4) (fIndex (fVar 2) (fCons (fVar 3) (fNil))) (fVar 5)))
  (fSeq (fFor (fSrc (fBin gIx (fVar 1) (fC (.int 1)))) (gNm 3) (fAug (fun i j => i + j) (fVar 4) (fIndex (fVar 2) (fCons (fVar 3) (fNil))) (fC (.int 1))))
  (fRet (fCall gTuple (fCons (fVar 4) (fNil)))))))
def TallyS (φ : Phi) : Prop := ∀ (s : Sto) (lots : List Str) (more : List Dv) (laid : List (Str × Int)) (ds : List Str), lots.Nodup → lots.length ≤ 1000 → (∀ x ∈ laid, x.1 ∈ lots) → (∀ d ∈ ds, d ∈ lots) → Fl s →
  OkE nX (φ [.tup (encS lots :: more), encE laid ds] s) fun d s' => d = .tup ((tally lots laid ds).map .int) ∧ s' = s
end Z

namespace Z
open PySem PySem.Spec PyProof.Rows L2

/-! ### data without places: repr -/
mutual
def pd : Dv → PyData
  | .non => .none
  | .bl b => .bool b
  | .int i => .int i
  | .str x => .str x
  | .tup ds => .tuple (pds ds)
  | .ls ds => .list (pds ds)
  | .loc _ => .none
  | .xn .. => .none
def pds : List Dv → List PyData
  | [] => []
  | d :: r => pd d :: pds r
end
mutual
/-- no places, ints below 10^12, texts in order, not deep -/
def gd : Nat → Dv → Bool
  | 0, _ => false
  | _ + 1, .non => true
  | _ + 1, .bl _ => true
  | _ + 1, .int i => decide (i.natAbs < 10 ^ 12)
  | _ + 1, .str x => PyData.strOk x
  | n + 1, .tup ds => gds n ds
  | n + 1, .ls ds => gds n ds
  | _ + 1, .loc _ => false
  | _ + 1, .xn .. => false
def gds : Nat → List Dv → Bool
  | _, [] => true
  | n, d :: r => gd n d && gds n r
end
mutual
def wd : Dv → Nat
  | .int _ => 41
  | .str x => x.cps.size
  | .tup ds => wds ds
  | .ls ds => wds ds
  | _ => 0
def wds : List Dv → Nat
  | [] => 0
  | d :: r => wd d + 1 + wds r
end
mutual
theorem py_gd {s : Sto} : ∀ {n m : Nat} {d : Dv}, gd n d = true → n ≤ m → py s m d = some (pd d)
  | 0, _, _, h, _ => by simp [gd] at h
  | n + 1, 0, _, _, hm => by omega
  | n + 1, m + 1, .non, _, _ => by simp [py, pd]
  | n + 1, m + 1, .bl _, _, _ => by simp [py, pd]
  | n + 1, m + 1, .int _, _, _ => by simp [py, pd]
  | n + 1, m + 1, .str _, _, _ => by simp [py, pd]
  | n + 1, m + 1, .tup ds, h, hm => by
    have h : gds n ds = true := by simpa [gd] using h
    show (ds.mapM (py s m)).map PyData.tuple = _
    rw [pys_gd h (by omega)]; simp [pd]
  | n + 1, m + 1, .ls ds, h, hm => by
    have h : gds n ds = true := by simpa [gd] using h
    show (ds.mapM (py s m)).map PyData.list = _
    rw [pys_gd h (by omega)]; simp [pd]
  | n + 1, m + 1, .loc _, h, _ => by simp [gd] at h
  | n + 1, m + 1, .xn .., h, _ => by simp [gd] at h
theorem pys_gd {s : Sto} : ∀ {n m : Nat} {ds : List Dv}, gds n ds = true → n ≤ m → ds.mapM (py s m) = some (pds ds)
  | _, _, [], _, _ => by simp [pds]
  | n, m, d :: r, h, hm => by
    have h : gd n d = true ∧ gds n r = true := by simpa [gds] using h
    rw [List.mapM_cons, py_gd h.1 hm, pys_gd h.2 hm]; simp [pds]
end
theorem int_short {i : Int} (h : i.natAbs < 10 ^ 12) : (PyData.shown (.int i)).length ≤ 13 := by
  have := int_text_length_le10 (a := i) (k := 12) (by decide) h
  show (Str.ofString (toString i)).length ≤ 13
  rw [PySem.ofString_length]; exact this
theorem log2_small {n : Nat} (h : n < 10 ^ 12) : n.log2 < 40 := by
  by_cases h0 : n = 0
  · subst h0; decide
  · exact (Nat.log2_lt h0).mpr (by omega)
mutual
theorem gd_ok : ∀ {n : Nat} {d : Dv}, gd n d = true → (pd d).canLay0 = true ∧ (pd d).intsShort 13 = true ∧ (pd d).showable = true ∧ (pd d).weight ≤ wd d ∧ (pd d).depth ≤ n
  | 0, _, h => by simp [gd] at h
  | n + 1, .non, _ => by simp [pd, PyData.canLay0, PyData.intsShort, PyData.showable, PyData.weight, PyData.depth, wd]
  | n + 1, .bl _, _ => by simp [pd, PyData.canLay0, PyData.intsShort, PyData.showable, PyData.weight, PyData.depth, wd]
  | n + 1, .int i, h => by
    have h : i.natAbs < 10 ^ 12 := by simpa [gd] using h
    have hl := log2_small h
    refine ⟨by simp [pd, PyData.canLay0], ?_, ?_, ?_, by simp [pd, PyData.depth]⟩
    · simp only [pd, PyData.intsShort, decide_eq_true_eq]; exact int_short h
    · simp only [pd, PyData.showable, decide_eq_true_eq]; omega
    · simp only [pd, PyData.weight, wd]
      split <;> omega
  | n + 1, .str x, h => by
    have h : PyData.strOk x = true := by simpa [gd] using h
    simp [pd, PyData.canLay0, PyData.intsShort, PyData.showable, PyData.weight, PyData.depth, wd, h]
  | n + 1, .tup ds, h => by
    have h : gds n ds = true := by simpa [gd] using h
    obtain ⟨h1, h2, h3, h4, h5⟩ := gds_ok h
    refine ⟨by simpa [pd, PyData.canLay0] using h1, by simpa [pd, PyData.intsShort] using h2, by simpa [pd, PyData.showable] using h3, by simpa [pd, PyData.weight, wd] using h4, ?_⟩
    simp only [pd, PyData.depth]; omega
  | n + 1, .ls ds, h => by
    have h : gds n ds = true := by simpa [gd] using h
    obtain ⟨h1, h2, h3, h4, h5⟩ := gds_ok h
    refine ⟨by simpa [pd, PyData.canLay0] using h1, by simpa [pd, PyData.intsShort] using h2, by simpa [pd, PyData.showable] using h3, by simpa [pd, PyData.weight, wd] using h4, ?_⟩
    simp only [pd, PyData.depth]; omega
  | n + 1, .loc _, h => by simp [gd] at h
  | n + 1, .xn .., h => by simp [gd] at h
theorem gds_ok : ∀ {n : Nat} {ds : List Dv}, gds n ds = true → PyData.canLayAll0 (pds ds) = true ∧ PyData.intsShortAll 13 (pds ds) = true ∧ PyData.showableAll (pds ds) = true ∧ PyData.weightAll (pds ds) ≤ wds ds ∧ PyData.depthAll (pds ds) ≤ n
  | _, [], _ => by simp [pds, PyData.canLayAll0, PyData.intsShortAll, PyData.showableAll, PyData.weightAll, PyData.depthAll, wds]
  | n, d :: r, h => by
    have h : gd n d = true ∧ gds n r = true := by simpa [gds] using h
    obtain ⟨a1, a2, a3, a4, a5⟩ := gd_ok h.1
    obtain ⟨b1, b2, b3, b4, b5⟩ := gds_ok h.2
    refine ⟨by simp [pds, PyData.canLayAll0, a1, b1], by simp [pds, PyData.intsShortAll, a2, b2], by simp [pds, PyData.showableAll, a3, b3], ?_, ?_⟩
    · simp only [pds, PyData.weightAll, wds]; omega
    · simp only [pds, PyData.depthAll]; omega
end
/-- list + list -/
def kCat2 (x : Dv) (L : List Dv → Sto → Prop) : Dv → Sto → Prop := fun y s2 => OkE nX (match seqOf s2 x, seqOf s2 y with
  | some ds, some es => Rs.iff (isL x s2 && isL y s2 && decide (ds.length + es.length ≤ 16777216)) (.ok (ds ++ es) s2)
  | _, _ => .bad) L
def kCat (g : Fn Dv) (env : En) (L : List Dv → Sto → Prop) : Dv → Sto → Prop := fun x s1 => OkE nX (g env s1) (kCat2 x L)
theorem kCat_ap {g : Fn Dv} {env : En} {L : List Dv → Sto → Prop} {x : Dv} {s : Sto} : kCat g env L x s = OkE nX (g env s) (kCat2 x L) := rfl
theorem ok_catL {f g : Fn Dv} {env : En} {s : Sto} {L : List Dv → Sto → Prop} : OkE nX (fCatL f g env s) L ↔ OkE nX (f env s) (kCat g env L) := by
  unfold fCatL; rw [ok_bind]
  exact ⟨fun h => h.mono fun _ _ h => ok_bind.mp h, fun h => h.mono fun _ _ h => ok_bind.mpr h⟩
theorem kCat2_ls {ds es : List Dv} {L : List Dv → Sto → Prop} {s : Sto} : kCat2 (.ls ds) L (.ls es) s ↔ decide (ds.length + es.length ≤ 16777216) = true ∧ L (ds ++ es) s := by
  show OkE nX (Rs.iff (true && true && _) _) L ↔ _
  rw [ok_iff]; simp only [Bool.true_and, Bool.and_self]; exact Iff.rfl
/-- xs[::-1] -/
def kRev (L : List Dv → Sto → Prop) : Dv → Sto → Prop := fun x s1 => OkE nX (match seqOf s1 x with
  | some ds => Rs.iff (isL x s1) (.ok ds.reverse s1)
  | none => .bad) L
end Z

namespace Z
open PySem PySem.Spec PyProof.Rows L2

/-! ### {k: v} -/
def kDict (T : Dv → Sto → Prop) : List (Dv × Dv) → Sto → Prop := fun ps s => ∃ kvs, keysD ps = some kvs ∧ decide (kvs.length ≤ 15) = true ∧ T (.loc s.length) (s ++ [.dk (mergeD [] kvs)])
def kPc3 (k v : Dv) (Z : List (Dv × Dv) → Sto → Prop) : List (Dv × Dv) → Sto → Prop := fun ps s => Z ((k, v) :: ps) s
def kPc2 (r : List (Fn Dv × Fn Dv)) (k : Dv) (env : En) (Z : List (Dv × Dv) → Sto → Prop) : Dv → Sto → Prop := fun v s => OkE nX (fPairs r env s) (kPc3 k v Z)
def kPc (fv : Fn Dv) (r : List (Fn Dv × Fn Dv)) (env : En) (Z : List (Dv × Dv) → Sto → Prop) : Dv → Sto → Prop := fun k s => OkE nX (fv env s) (kPc2 r k env Z)
section
variable {T : Dv → Sto → Prop} {Z : List (Dv × Dv) → Sto → Prop} {env : En} {s : Sto} {k v : Dv} {r : List (Fn Dv × Fn Dv)} {fk fv : Fn Dv} {ps : List (Dv × Dv)}
theorem kPc3_ap : kPc3 k v Z ps s = Z ((k, v) :: ps) s := rfl
theorem kPc2_ap : kPc2 r k env Z v s = OkE nX (fPairs r env s) (kPc3 k v Z) := rfl
theorem kPc_ap : kPc fv r env Z k s = OkE nX (fv env s) (kPc2 r k env Z) := rfl
theorem ok_pN : OkE nX (fPairs [] env s) Z ↔ Z [] s := Iff.rfl
theorem ok_pC : OkE nX (fPairs ((fk, fv) :: r) env s) Z ↔ OkE nX (fk env s) (kPc fv r env Z) := by
  show OkE nX (Rs.bind _ _) Z ↔ _
  rw [ok_bind]
  exact ⟨fun h => h.mono fun _ _ h => (ok_bind.mp h).mono fun _ _ h => (ok_bind.mp h).mono fun _ _ h => h, fun h => h.mono fun _ _ h => ok_bind.mpr (h.mono fun _ _ h => ok_bind.mpr (h.mono fun _ _ h => h))⟩
theorem ok_dict {fs : List (Fn Dv × Fn Dv)} : OkE nX (fDict fs env s) T ↔ OkE nX (fPairs fs env s) (kDict T) := by
  unfold fDict
  rw [ok_bind]
  refine ⟨fun h => h.mono fun ps s h => ?_, fun h => h.mono fun ps s h => ?_⟩
  · cases e : keysD ps with
    | none => rw [e] at h; exact False.elim h
    | some kvs =>
      rw [e] at h
      obtain ⟨h1, h2⟩ := ok_iff.mp h
      exact ⟨kvs, e, h1, h2⟩
  · obtain ⟨kvs, e, h1, h2⟩ := h
    rw [e]
    exact ok_iff.mpr ⟨h1, h2⟩
theorem list_ls {ds : List Dv} : gList [.ls ds] s = .ok ds s := rfl
end

/-! ### the tap's beginning -/
def bTap : Fn Ct :=
  fRet (fDict [(fC (.str (Str.ofString "cells")), fVal (fCallL gList (fCons (fSl (fVar 0) (fNoPart) (fPart (fC (.int 63)))) (fNil)))), (fC (.str (Str.ofString "spot")), fC (.int 0)), (fC (.str (Str.ofString "rest")), fC (.int 0)), (fC (.str (Str.ofString "calls")), fC (.int 0))])
def TapS (φ : Phi) : Prop := ∀ ns : List Int, OkE nX (φ [.ls (ns.map .int)] []) fun d s' => ∃ t : Tap, d = .loc 0 ∧ s' = [tapOb t] ∧ t.Wf ∧ t.calls = 0
theorem tap_spec : TapS (fDef 1 1 bTap) := by
  intro ns
  rw [ok_def]
  refine ⟨rfl, ?_⟩
  unfold bTap
  have h : cutD (ns.map Dv.int) none (some 63) = (ns.take 63).map Dv.int := by rw [cut_take (by decide), List.map_take]; rfl
  have e : ∀ s : Sto, gSl (.ls (ns.map Dv.int)) none (some 63) s = .ok (.ls ((ns.take 63).map Dv.int)) s := fun s => by
    show Rs.ok (Dv.ls (cutD (ns.map Dv.int) none (some 63))) s = _
    rw [h]
  simp only [ok_ok, kDrop_ap, kRet_ap, kSet_ap, kCons2_ap, kCons_ap, kTup_ap, kLst_ap, kVal_ap, kNew_ap, kBin2_ap, kBin_ap, kUn_ap, kCall_ap, kCallL_ap, kNotT_ap, kAndT_ap, kOrT_ap, kIf_ap, kIfS_ap, kAnd_ap, kOr_ap, kNot_ap, kMt2_ap, kMt_ap, kPut4_ap, kPut3_ap, kPut2_ap, kPut_ap, kExt2_ap, kExt_ap, kAsg2_ap, kAsg_ap, kFor_ap, kLc_ap, kSl3_ap, kSl2_ap, kSl_ap, kGs_ap, ok_seq, sq_next, sq_ret, sq_brk, sq_cont, ok_nop, ok_brk, ok_cont, ok_drop, ok_ret, ok_retN, ok_set, ok_var0, ok_varS, ok_c, ok_nil, ok_cons, ok_tup, ok_lst, ok_val, ok_new, ok_bin, ok_un, ok_call, ok_callL, ok_test, tst_bl, ok_notT, ok_andT, ok_orT, ok_if, ok_ifS, ok_and, ok_or, ok_not, ok_mt, ok_put, ok_extend, pr2_mk, ok_par2, ok_asg, ok_for, ok_lc, ok_yes, ok_noPart, prt_int, ok_part, ok_sl, ok_gNm, ok_gTp, ok_gsN, ok_gsC, rg1_mk, rg2_mk, ok_rng1, ok_rng2, srcK_tup, srcK_ls, ok_src, finK_next, finK_ret, List.set_cons_zero, List.set_cons_succ, List.map_cons, List.map_nil, List.replicate, List.cons_append, List.nil_append, List.length_cons, List.length_nil, Bool.false_eq_true, eq_self, if_true, if_false, Nat.zero_add, okX_non, okX_bl, okX_int, okX_str, okX_tup, okX_ls, okX_loc, true_and, ok_dict, ok_pC, ok_pN, kPc_ap, kPc2_ap, kPc3_ap, e, list_ls]
  refine ⟨_, rfl, rfl, ?_⟩
  exact ⟨⟨ns.take 63, 0, 0, 0⟩, rfl, rfl, ⟨Int.le_refl _, Int.le_refl _, Int.le_refl _⟩, rfl⟩

/-! ### an end of a count -/
def bEnd7a (φt : Phi) : Fn Ct := fSeq (fSet 8 (fBin gAdd (fTup (fCons (fVar 3) (fNil))) (fVar 6)))
  (fDrop (fMt isL gAppend (fVar 2) (fCons (fTup (fCons (fBin gIx (fVar 8) (fCall φt (fCons (fVar 0) (fCons (fCall gLen (fCons (fVar 8) (fNil))) (fNil))))) (fCons (fBin gAdd (fVar 7) (fCall φt (fCons (fVar 0) (fCons (fBin gAdd (fBin gSub (fBin gAdd (fVar 4) (fVar 5)) (fVar 7)) (fC (.int 1))) (fNil))))) (fNil)))) (fNil))))
def bEnd7 (φt : Phi) : Fn Ct :=
  fSeq (fSet 2 (fNew (fLst (fNil))))
  (fSeq (fFor (fSrc (fBin gIx (fVar 1) (fC (.int 1)))) (gTp 4 (gsCons (gNm 3) (gsCons (gNm 4) (gsCons (gNm 5) (gsCons (gNm 6) (gsNil)))))) (fSeq (fSet 7 (fIf (fTest (fBin gGt (fVar 4) (fVar 5))) (fBin gSub (fVar 4) (fVar 5)) (fC (.int 0))))
  (bEnd7a φt)))
  (fRet (fTup (fCons (fCall gTuple (fCons (fVar 2) (fNil))) (fCons (fCall gTuple (fCons (fVal (fLc (fSrc (fBin gIx (fVar 1) (fC (.int 2)))) [9] (gNm 9) (fYes) (fBin gIx (fVar 9) (fCall φt (fCons (fVar 0) (fCons (fCall gLen (fCons (fVar 9) (fNil))) (fNil))))))) (fNil))) (fNil))))))
structure EndOk (c : Cnt) (laid : List (Str × Int)) (ds : List Str) : Prop where
  hlaid : ∀ x ∈ laid, x.1 ∈ c.lots ∧ 0 ≤ x.2 ∧ x.2 ≤ 1010000
  nlaid : laid.length = c.piles.length
  hds : ∀ d ∈ ds, d ∈ c.lots
  nds : ds.length = c.doubts.length
def EndS (φ : Phi) : Prop := ∀ (t : Tap) (r : Sto) (c : Cnt), CntOk c → t.Wf → t.calls + 1000 ≤ 1000000 → Fl r →
  OkE nX (φ [.loc 0, encC c] (tapOb t :: r)) fun d s' => ∃ (laid : List (Str × Int)) (ds : List Str) (t' : Tap), d = encE laid ds ∧ EndOk c laid ds ∧ s' = tapOb t' :: r ∧ t'.Wf ∧ t.calls ≤ t'.calls ∧ t'.calls ≤ t.calls + 1000
theorem srtS_len (xs : List Str) : (srtS xs).length = xs.length := (srtS_perm xs).length_eq
/-! ### the sums by name -/
def bSums7 : Fn Ct :=
  fSeq (fSet 2 (fNew (fLst (fNil))))
  (fSeq (fFor (fSrc (fBin gIx (fVar 0) (fC (.int 0)))) (gNm 3) (fSeq (fSet 4 (fVal (fCatL (fVal (fLc (fSrc (fBin gIx (fVar 1) (fC (.int 0)))) [5, 6] (gTp 2 (gsCons (gNm 5) (gsCons (gNm 6) (gsNil)))) (fTest (fBin gEq (fVar 5) (fVar 3))) (fVar 6))) (fVal (fLc (fSrc (fBin gIx (fVar 1) (fC (.int 1)))) [5] (gNm 5) (fTest (fBin gEq (fVar 5) (fVar 3))) (fC (.int 1)))))))
  (fDrop (fMt isL gAppend (fVar 2) (fCons (fCall gSumL (fCons (fVar 4) (fNil))) (fNil))))))
  (fRet (fCall gTuple (fCons (fVar 2) (fNil)))))
end Z

namespace Z
open PySem PySem.Spec PyProof.Rows L2

/-! ### more readings -/
section
variable {T : Dv → Sto → Prop} {S : Src → Sto → Prop} {env : En} {s : Sto} {L : List Dv → Sto → Prop} {R : Ct → Sto → Prop} {B : Bool → Sto → Prop}
def kIsi (N : String) (T : Dv → Sto → Prop) : Dv → Sto → Prop := fun x s => okX x = true ∧ T (.bl (isiB (tyD x s) N)) s
def kSrcS (S : Src → Sto → Prop) : Dv → Sto → Prop := fun d s => match d with | .str z => S (charsD z, noChk) s | _ => False
def kEnum (S : Src → Sto → Prop) : List Dv → Sto → Prop := fun ds s => ∃ d src, ds = [d] ∧ srcOf d s = some src ∧ S (enumD src.1, src.2) s
def kZip (S : Src → Sto → Prop) : List Dv → Sto → Prop := fun ds s => ∃ d e a b, ds = [d, e] ∧ srcOf d s = some a ∧ srcOf e s = some b ∧ ((isL d s && isL e s) || (isT d s && isT e s)) = true ∧ S (zipD a.1 b.1, fun s => a.2 s && b.2 s) s
def kRevI (S : Src → Sto → Prop) : Dv → Sto → Prop := fun d s => ∃ src, srcOf d s = some src ∧ S (src.1.reverse, src.2) s
def kChain3 (g' : Dv → Dv → Sto → Rs Dv) (f3 : Fn Dv) (env : En) (y : Dv) (T : Dv → Sto → Prop) : Dv → Sto → Prop := fun t s3 => match t with
  | .bl true => OkE nX (f3 env s3) (kUn nX (fun z => g' y z) T)
  | .bl false => T (.bl false) s3
  | _ => False
def kChain2 (g g' : Dv → Dv → Sto → Rs Dv) (f3 : Fn Dv) (env : En) (x : Dv) (T : Dv → Sto → Prop) : Dv → Sto → Prop := fun y s2 => OkE nX (g x y s2) (kChain3 g' f3 env y T)
def kChain (g g' : Dv → Dv → Sto → Rs Dv) (f2 f3 : Fn Dv) (env : En) (T : Dv → Sto → Prop) : Dv → Sto → Prop := fun x s1 => OkE nX (f2 env s1) (kChain2 g g' f3 env x T)
end
theorem fin_any {s : Sto} {d : Dv} {T : Dv → Sto → Prop} (hd : ∀ n, d ≠ .loc n) (h : T d s) : OkE nX (gcZ s.length d s) T := by
  have e : gcZ s.length d s = .ok d s := by
    unfold gcZ
    split
    · rw [List.take_length]
    · cases d with
      | loc n => exact absurd rfl (hd n)
      | _ => rfl
  rw [e]; exact h
theorem all_ls {bs : List Bool} {s : Sto} : gAll [.ls (bs.map .bl)] s = .ok (.bl (bs.all id)) s := by
  have h : blsOf (bs.map .bl) = some bs := by
    induction bs with
    | nil => rfl
    | cons z r ih =>
      show (blsOf (r.map .bl)).map (z :: ·) = _
      rw [ih]; rfl
  unfold gAll gOnL
  have e : (seqOf s (.ls (bs.map .bl))).bind blsOf = some bs := h
  simp only [e]
  rfl
/-! ### kinds of things -/
def bNumber : Fn Ct := fRet (fAnd (fIsi "int" (fVar 0)) (fNot (fIsi "bool" (fVar 0))))
def isNumD : Dv → Bool
  | .int _ => true
  | _ => false
def isWordD : Dv → Bool
  | .str z => isWordS z
  | _ => false
def bWord : Fn Ct :=
  fSeq (fIfS (fOrT (fNotT (fTest (fIsi "str" (fVar 0)))) (fNotT (fTest (fChain gLe gLe (fC (.int 1)) (fCall gLen (fCons (fVar 0) (fNil))) (fC (.int 8)))))) (fRet (fC (.bl false))) (fNop))
  (fRet (fCall gAll (fCons (fVal (fLc (fSrcS (fVar 0)) [1] (gNm 1) (fYes) (fBin gIn (fVar 1) (fC (.str (Str.ofString "abcdefghijklmnopqrstuvwxyz")))))) (fNil))))
end Z

namespace Z
open PySem PySem.Spec PyProof.Rows L2

/-! ### ends looked at -/
def NumberS (φ : Phi) : Prop := ∀ (d : Dv) (s : Sto) (T : Dv → Sto → Prop), okX d = true → T (.bl (isNumD d)) s → OkE nX (φ [d] s) T
def WordS (φ : Phi) : Prop := ∀ (d : Dv) (s : Sto) (T : Dv → Sto → Prop), okX d = true → (∀ z, d = .str z → z.length ≤ 16777216) → T (.bl (isWordD d)) s → OkE nX (φ [d] s) T
def bAreWords (φw : Phi) : Fn Ct :=
  fRet (fAnd (fIsi "tuple" (fVar 0)) (fCall gAll (fCons (fVal (fLc (fSrc (fVar 0)) [1] (gNm 1) (fYes) (fCall φw (fCons (fVar 1) (fNil))))) (fNil))))
/-- texts that are no longer than a text may be -/
def txtOk : Dv → Bool
  | .str z => decide (z.length ≤ 16777216)
  | d => okX d
def bLaid (φn φw : Phi) : Fn Ct :=
  fRet (fAnd (fIsi "tuple" (fVar 0)) (fAnd (fBin gEq (fCall gLen (fCons (fVar 0) (fNil))) (fC (.int 2))) (fAnd (fCall φw (fCons (fBin gIx (fVar 0) (fC (.int 0))) (fNil))) (fCall φn (fCons (fBin gIx (fVar 0) (fC (.int 1))) (fNil))))))
def LaidS (φ : Phi) : Prop := ∀ (x : Str × Int) (s : Sto) (T : Dv → Sto → Prop), isWordS x.1 = true → T (.bl true) s → OkE nX (φ [encL x] s) T
def AreWordsS (φ : Phi) : Prop := ∀ (ds : List Dv) (s : Sto) (T : Dv → Sto → Prop), (∀ d ∈ ds, txtOk d = true) → ds.length < 16777216 → T (.bl (ds.all isWordD)) s → OkE nX (φ [.tup ds] s) T
def bShaped (φl φa : Phi) : Fn Ct :=
  fSeq (fIfS (fOrT (fNotT (fTest (fIsi "tuple" (fVar 0)))) (fOrT (fTest (fBin gNe (fCall gLen (fCons (fVar 0) (fNil))) (fC (.int 2)))) (fNotT (fTest (fIsi "tuple" (fBin gIx (fVar 0) (fC (.int 0)))))))) (fRet (fC (.bl false))) (fNop))
  (fRet (fAnd (fCall gAll (fCons (fVal (fLc (fSrc (fBin gIx (fVar 0) (fC (.int 0)))) [1] (gNm 1) (fYes) (fCall φl (fCons (fVar 1) (fNil))))) (fNil))) (fCall φa (fCons (fBin gIx (fVar 0) (fC (.int 1))) (fNil)))))
def bLeast : Fn Ct := fRet (fCall (gTwo fun i j => if j > i then j else i) (fCons (fC (.int 0)) (fCons (fBin gSub (fBin gIx (fVar 0) (fC (.int 1))) (fBin gIx (fVar 0) (fC (.int 2)))) (fNil))))
def bGreat : Fn Ct := fRet (fBin gAdd (fBin gIx (fVar 0) (fC (.int 1))) (fBin gIx (fVar 0) (fC (.int 2))))
def Pil.least (p : Pil) : Int := if p.many - p.slip > 0 then p.many - p.slip else 0
def LeastS (φ : Phi) : Prop := ∀ (p : Pil) (s : Sto) (T : Dv → Sto → Prop), T (.int p.least) s → OkE nX (φ [encP p] s) T
def GreatS (φ : Phi) : Prop := ∀ (p : Pil) (s : Sto) (T : Dv → Sto → Prop), T (.int (p.many + p.slip)) s → OkE nX (φ [encP p] s) T
def bFaultN (φl φg : Phi) : Fn Ct := fIfS (fNotT (fTest (fChain gLe gLe (fCall φl (fCons (fVar 5) (fNil))) (fBin gIx (fBin gIx (fVar 2) (fVar 4)) (fC (.int 1))) (fCall φg (fCons (fVar 5) (fNil)))))) (fRet (fTup (fCons (fC (.str (Str.ofString "number"))) (fCons (fVar 4) (fNil))))) (fNop)
def bFault (φl φg : Phi) : Fn Ct :=
  fSeq (fAsg (fVar 1) (gTp 2 (gsCons (gNm 2) (gsCons (gNm 3) (gsNil)))))
  (fSeq (fIfS (fTest (fBin gNe (fCall gLen (fCons (fVar 2) (fNil))) (fCall gLen (fCons (fBin gIx (fVar 0) (fC (.int 1))) (fNil))))) (fRet (fTup (fCons (fC (.str (Str.ofString "piles"))) (fCons (fUn gNeg (fC (.int 1))) (fNil))))) (fNop))
  (fSeq (fFor (fEnum (fCons (fBin gIx (fVar 0) (fC (.int 1))) (fNil))) (gTp 2 (gsCons (gNm 4) (gsCons (gNm 5) (gsNil)))) (fSeq (fIfS (fAndT (fTest (fBin gNe (fBin gIx (fBin gIx (fVar 2) (fVar 4)) (fC (.int 0))) (fBin gIx (fVar 5) (fC (.int 0))))) (fTest (fBin gNotIn (fBin gIx (fBin gIx (fVar 2) (fVar 4)) (fC (.int 0))) (fBin gIx (fVar 5) (fC (.int 3)))))) (fRet (fTup (fCons (fC (.str (Str.ofString "name"))) (fCons (fVar 4) (fNil))))) (fNop))
  (bFaultN φl φg)))
  (fSeq (fIfS (fTest (fBin gNe (fCall gLen (fCons (fVar 3) (fNil))) (fCall gLen (fCons (fBin gIx (fVar 0) (fC (.int 2))) (fNil))))) (fRet (fTup (fCons (fC (.str (Str.ofString "doubts"))) (fCons (fUn gNeg (fC (.int 1))) (fNil))))) (fNop))
  (fSeq (fFor (fEnum (fCons (fBin gIx (fVar 0) (fC (.int 2))) (fNil))) (gTp 2 (gsCons (gNm 4) (gsCons (gNm 6) (gsNil)))) (fIfS (fTest (fBin gNotIn (fBin gIx (fVar 3) (fVar 4)) (fVar 6))) (fRet (fTup (fCons (fC (.str (Str.ofString "given"))) (fCons (fVar 4) (fNil))))) (fNop)))
  (fRet (fC .non))))))
/-- an end that the count lets pass -/
structure Fits (c : Cnt) (laid : List (Str × Int)) (ds : List Str) : Prop where
  nl : laid.length = c.piles.length
  nd : ds.length = c.doubts.length
  name : ∀ (i : Nat) (x : Str × Int) (p : Pil), laid[i]? = some x → c.piles[i]? = some p → x.1 = p.name ∨ x.1 ∈ p.others
  num : ∀ (i : Nat) (x : Str × Int) (p : Pil), laid[i]? = some x → c.piles[i]? = some p → p.least ≤ x.2 ∧ x.2 ≤ p.many + p.slip
  dbt : ∀ (i : Nat) (x : Str) (d : List Str), ds[i]? = some x → c.doubts[i]? = some d → x ∈ d
theorem in_strs {x : Str} {xs : List Str} {s : Sto} : gIn (.str x) (encS xs) s = .ok (.bl (decide (x ∈ xs))) s := by
  have h : (xs.map Dv.str).mapM fV = some (xs.map V.str) := mapM_map (g := fV) (f := Dv.str) (h := V.str) (xs := xs) fun y _ => rfl
  show (match fV (.str x), (seqOf s (.tup (xs.map .str))).bind (·.mapM fV) with | some v, some vs => Rs.ok (Dv.bl (inV v vs)) s | _, _ => .bad) = _
  have e : (seqOf s (.tup (xs.map .str))).bind (·.mapM fV) = some (xs.map V.str) := h
  rw [e]
  show Rs.ok (Dv.bl (inV (.str x) (xs.map V.str))) s = _
  have e2 : inV (.str x) (xs.map V.str) = decide (x ∈ xs) := by
    unfold inV
    rw [List.any_map]
    rw [Bool.eq_iff_iff, List.any_eq_true, decide_eq_true_eq]
    constructor
    · rintro ⟨y, hy, e⟩
      have : y = x := by simpa [eqV] using e
      rw [← this]; exact hy
    · intro hx
      exact ⟨x, hx, by simp [eqV]⟩
  rw [e2]
theorem notin_strs {x : Str} {xs : List Str} {s : Sto} : gNotIn (.str x) (encS xs) s = .ok (.bl (!decide (x ∈ xs))) s := by
  show (gIn (.str x) (encS xs) s).bind _ = _
  rw [in_strs]; rfl
theorem ix_tupN {ds : List Dv} {i : Nat} {d : Dv} {s : Sto} (h : ds[i]? = some d) : gIx (.tup ds) (.int (i : Nat)) s = .ok d s := ix_tup (Int.natCast_nonneg i) (by rw [Int.toNat_natCast]; exact h)
/-! ### the end as told -/
def bTold : Fn Ct :=
  fRet (fTup (fCons (fCall gTuple (fCons (fVal (fLc (fSrc (fBin gIx (fVar 0) (fC (.int 1)))) [1] (gNm 1) (fYes) (fSl (fVar 1) (fNoPart) (fPart (fC (.int 2)))))) (fNil))) (fCons (fCall gTuple (fCons (fVal (fLc (fSrc (fBin gIx (fVar 0) (fC (.int 2)))) [2] (gNm 2) (fYes) (fBin gIx (fVar 2) (fC (.int 0))))) (fNil))) (fNil))))
def toldL (c : Cnt) : List (Str × Int) := c.piles.map fun p => (p.name, p.many)
def toldD (c : Cnt) : List Str := c.doubts.map fun d => d.headD (Str.ofString "")
def ToldS (φ : Phi) : Prop := ∀ (c : Cnt) (s : Sto) (T : Dv → Sto → Prop), c.piles.length < 1000 → c.doubts.length < 1000 → (∀ d ∈ c.doubts, d ≠ []) → T (encE (toldL c) (toldD c)) s → OkE nX (φ [encC c] s) T
/-! ### an end let pass -/
def bLets (φs φf φy : Phi) : Fn Ct :=
  fSeq (fIfS (fNotT (fTest (fCall φs (fCons (fVar 1) (fNil))))) (fNever) (fNop))
  (fSeq (fSet 2 (fCall φf (fCons (fVar 0) (fCons (fVar 1) (fNil)))))
  (fSeq (fIfS (fTest (fBin gIsNot (fVar 2) (fC .non))) (fNever) (fNop))
  (fRet (fCall φy (fCons (fVar 0) (fCons (fVar 1) (fNil)))))))
def ShapedS (φ : Phi) : Prop := ∀ (laid : List (Str × Int)) (ds : List Str) (s : Sto) (T : Dv → Sto → Prop), (∀ x ∈ laid, isWordS x.1 = true) → (∀ x ∈ ds, isWordS x = true) → laid.length < 16777216 → ds.length < 16777216 → T (.bl true) s → OkE nX (φ [encE laid ds] s) T
def FaultS (φ : Phi) : Prop := ∀ (c : Cnt) (laid : List (Str × Int)) (ds : List Str) (s : Sto) (T : Dv → Sto → Prop), Fits c laid ds → T .non s → OkE nX (φ [encC c, encE laid ds] s) T
theorem Fits.ends {c : Cnt} (hc : CntOk c) {laid : List (Str × Int)} {ds : List Str} (hf : Fits c laid ds) : (∀ x ∈ laid, x.1 ∈ c.lots) ∧ ∀ x ∈ ds, x ∈ c.lots := by
  refine ⟨fun x hx => ?_, fun x hx => ?_⟩
  · obtain ⟨i, hi⟩ := List.getElem?_of_mem hx
    have hl : i < c.piles.length := by rw [← hf.nl]; exact (List.getElem?_eq_some_iff.mp hi).1
    have hp := List.getElem?_eq_getElem hl
    have hm := List.getElem_mem hl
    rcases hf.name i x _ hi hp with e | e
    · rw [e]; exact (hc.piles _ hm).name
    · rcases (hc.piles _ hm).others with q | ⟨ws, q, h1, _⟩
      · rw [q] at e; cases e
      · rw [q] at e; exact h1.subset ((srtS_perm ws).mem_iff.mp e)
  · obtain ⟨i, hi⟩ := List.getElem?_of_mem hx
    have hl : i < c.doubts.length := by rw [← hf.nd]; exact (List.getElem?_eq_some_iff.mp hi).1
    have hp := List.getElem?_eq_getElem hl
    have e := hf.dbt i x _ hi hp
    obtain ⟨ws, q, h1, _⟩ := hc.doubts _ (List.getElem_mem hl)
    rw [q] at e
    exact h1.subset ((srtS_perm ws).mem_iff.mp e)
end Z

namespace Z
open PySem PySem.Spec PyProof.Rows L2
theorem CntOk.dbt {c : Cnt} (hc : CntOk c) {d : List Str} (hd : d ∈ c.doubts) : 1 ≤ d.length ∧ d.length ≤ 6 ∧ ∀ x ∈ d, x ∈ c.lots := by
  obtain ⟨ws, e, q1, q2⟩ := hc.doubts d hd
  rw [e, srtS_len]
  exact ⟨List.length_pos_iff.mpr q2, Nat.le_trans q1.length_le hc.len6, fun x hx => q1.subset ((srtS_perm ws).mem_iff.mp hx)⟩
/-! ### told ends -/
/-! ### counts and ends, folded -/
section
variable {c : Cnt} {p : Pil} {l : List (Str × Int)} {ds : List Str} {x : Str × Int} {s : Sto}
theorem len_encS : gLen [encS ds] s = .ok (.int ds.length) s := by
  show Rs.ok (Dv.int ((ds.map Dv.str).length : Nat)) s = _
  rw [List.length_map]
end
end Z

namespace Z
open PySem PySem.Spec L2

/-! ### the feed -/
structure Feed where
  cells : List Int
  spot : Int
  rest : Int
  calls : Int
def feedOb (f : Feed) : Ob := .lst [.ls (f.cells.map .int), .int f.spot, .int f.rest, .int f.calls]
section
variable {f : Feed} {r : Sto} {i : Int}
end
structure Feed.Wf (f : Feed) : Prop where
  c0 : 0 ≤ f.calls
  r0 : 0 ≤ f.rest
  s0 : 0 ≤ f.spot
def bSource : Fn Ct := fRet (fNew (fLst (fCons (fSl (fVar 0) (fNoPart) (fPart (fC (.int 63)))) (fCons (fC (.int 0)) (fCons (fC (.int 0)) (fCons (fC (.int 0)) (fNil)))))))
def finN (T : Dv → Sto → Prop) : Ct → Sto → Prop
  | .next _, s => T .non s
  | .ret d, s => T d s
  | _, _ => False
def SourceS (φ : Phi) : Prop := ∀ ns : List Int, OkE nX (φ [.ls (ns.map .int)] []) fun d s' => ∃ f : Feed, d = .loc 0 ∧ s' = [feedOb f] ∧ f.Wf ∧ f.calls = 0
def bDrawE : Fn Ct :=
  (fSeq (fSet 4 (fBin gMod (fBin gPow (fBin gAdd (fBin gAdd (fBin gMod (fVar 3) (fC (.int 2147483629))) (fBin gMul (fC (.int 6007)) (fBin gIx (fVar 0) (fC (.int 3))))) (fC (.int 19))) (fC (.int 5))) (fC (.int 2147483587))))
  (fRet (fBin gMod (fBin gDiv (fBin gMod (fBin gPow (fBin gAdd (fVar 4) (fBin gMul (fC (.int 7927)) (fBin gIx (fVar 0) (fC (.int 3))))) (fC (.int 5))) (fC (.int 2147483549))) (fC (.int 8))) (fVar 1))))
def bDrawM : Fn Ct :=
  (fSeq (fPut (fVar 0) (fC (.int 1)) (fBin gAdd (fBin gIx (fVar 0) (fC (.int 1))) (fC (.int 1))))
  (fSeq (fIfS (fAndT (fTest (fBin gGe (fVar 3) (fBin gPow (fC (.int 10)) (fC (.int 18))))) (fTest (fBin gLe (fBin gIx (fVar 0) (fC (.int 1))) (fCall gLen (fCons (fBin gIx (fVar 0) (fC (.int 0))) (fNil)))))) (fSeq (fPut (fVar 0) (fC (.int 2)) (fBin gDiv (fVar 3) (fVar 1)))
  (fRet (fBin gMod (fVar 3) (fVar 1)))) (fNop))
  bDrawE))
def bDraw : Fn Ct :=
  fSeq (fPut (fVar 0) (fC (.int 3)) (fBin gAdd (fBin gIx (fVar 0) (fC (.int 3))) (fC (.int 1))))
  (fSeq (fIfS (fTest (fBin gGt (fBin gIx (fVar 0) (fC (.int 2))) (fC (.int 0)))) (fSeq (fSet 2 (fBin gMod (fBin gIx (fVar 0) (fC (.int 2))) (fVar 1)))
  (fSeq (fPut (fVar 0) (fC (.int 2)) (fBin gDiv (fBin gIx (fVar 0) (fC (.int 2))) (fVar 1)))
  (fRet (fVar 2)))) (fNop))
  (fSeq (fSet 3 (fIf (fTest (fBin gNe (fBin gIx (fVar 0) (fC (.int 0))) (fVal (fLst (fNil))))) (fBin gIx (fBin gIx (fVar 0) (fC (.int 0))) (fBin gMod (fBin gIx (fVar 0) (fC (.int 1))) (fCall gLen (fCons (fBin gIx (fVar 0) (fC (.int 0))) (fNil))))) (fC (.int 0))))
  bDrawM))
def DrawS (φ : Phi) : Prop := ∀ (f : Feed) (r : Sto) (m : Int), f.Wf → f.calls < 1000000 → 1 ≤ m → m < 2 ^ 60 → Fl r → OkE nX (φ [.loc 0, .int m] (feedOb f :: r)) fun d s' => ∃ (x : Int) (f' : Feed), d = .int x ∧ 0 ≤ x ∧ x < m ∧ s' = feedOb f' :: r ∧ f'.Wf ∧ f'.calls = f.calls + 1
theorem Fl.feed {f : Feed} {r : Sto} (h : Fl r) : Fl (feedOb f :: r) := fun o ho => by
  rcases List.mem_cons.mp ho with z | z
  · subst z
    show belows 0 [.ls (f.cells.map .int), .int f.spot, .int f.rest, .int f.calls] = true
    exact belows_cons (below_ls (belows_ints _ _)) rfl
  · exact h o z
end Z

namespace Z
open PySem PySem.Spec L2

/-! ### errors, plainly -/
section
variable {α : Type} {Ex : Dv → Sto → Prop} {T : Dv → Sto → Prop} {L : List Dv → Sto → Prop} {R : Ct → Sto → Prop} {B : Bool → Sto → Prop} {P : α → Sto → Prop} {env : En} {s : Sto}
theorem ok_sure {f : Fn α} : OkE Ex (fSure f env s) P ↔ OkE nX (f env s) P := by
  show OkE Ex ((f env s).sure) P ↔ _
  cases f env s <;> exact Iff.rfl
def kRaise (Ex : Dv → Sto → Prop) (cn : Nat) : List Dv → Sto → Prop := fun ds s1 => (ds.length == (fldN cn).length) = true ∧ Ex (.xn 0 0 cn ds) s1
theorem kRaise_ap {cn : Nat} {ds : List Dv} : kRaise Ex cn ds s = ((ds.length == (fldN cn).length) = true ∧ Ex (.xn 0 0 cn ds) s) := rfl
theorem ok_raise {cn : Nat} {fs : Fn (List Dv)} : OkE Ex (fRaise cn fs env s) R ↔ OkE Ex (fs env s) (kRaise Ex cn) := by
  unfold fRaise; rw [ok_bind]
  exact ⟨fun h => h.mono fun _ _ h => ok_iff.mp h, fun h => h.mono fun _ _ h => ok_iff.mpr h⟩
/-- an error leaves a def -/
def kOut (Ex : Dv → Sto → Prop) (b : Nat) : Dv → Sto → Prop := fun e s1 => (below b e && keepsZ b s1) = true ∧ Ex e (s1.take b)
theorem ok_defX {n m : Nat} {body : Fn Ct} {ds : List Dv} : OkE Ex (fDefX n m body ds s) T ↔ (ds.length == n) = true ∧ OkE (kOut Ex s.length) (body (ds.map some ++ List.replicate (m - n) none) s) (finK Ex s.length T) := by
  unfold fDefX
  rw [ok_iff]
  refine and_congr_right fun _ => ?_
  cases body (ds.map some ++ List.replicate (m - n) none) s with
  | ok c s1 => cases c <;> exact Iff.rfl
  | exc e s1 =>
    show OkE Ex (gcX s.length e s1) T ↔ kOut Ex s.length e s1
    unfold gcX kOut
    split
    · rename_i h; exact ⟨fun x => ⟨h, x⟩, fun x => x.2⟩
    · rename_i h; exact ⟨fun x => False.elim x, fun x => absurd x.1 h⟩
  | bad => exact Iff.rfl
theorem keeps_fl {s l : Sto} (h : Fl s) : keepsZ s.length (s ++ l) = true := by
  unfold keepsZ
  rw [show (s ++ l).take s.length = s by simp]
  exact List.all_eq_true.mpr fun o ho => belowO_mono (Nat.zero_le _) (h o ho)
theorem keeps_fl0 {s : Sto} (h : Fl s) : keepsZ s.length s = true := by
  have := keeps_fl (l := []) h
  rwa [List.append_nil] at this
theorem kOut_mk {e : Dv} (hf : Fl s) (hb : below 0 e = true) (h : Ex e s) : kOut Ex s.length e s := by
  refine ⟨?_, ?_⟩
  · rw [below_mono (Nat.zero_le _) hb, keeps_fl0 hf]; rfl
  · rw [List.take_length]; exact h
/-- what a try's suite does with the error -/
def kTry (ct : Nat → Bool) (i : Nat) (gs : Addr → Addr → Nat → Fn Ct) (env : En) (R : Ct → Sto → Prop) : Dv → Sto → Prop := fun e s1 => ∃ a d c fs r s2, e = .xn a d c fs ∧ (decide (c < 9) && ct c) = true ∧ (∀ a dd, OkE nX (gs a dd c (env.set i (some (.xn a dd c fs))) s1) fun c2 s3 => unC i c2 = r ∧ s3 = s2) ∧ R r s2
theorem gErr_mk {a dd : Addr} {cn : Nat} {fs : List Dv} : gErr a dd cn (.xn a dd cn fs) = some fs := by
  unfold gErr
  simp
def kIsx (a dd : Addr) (cn : Nat) (b : Bool) (T : Dv → Sto → Prop) : Dv → Sto → Prop := fun d s => ∃ fs, gErr a dd cn d = some fs ∧ T (.bl b) s
theorem kIsx_mk {a dd : Addr} {cn : Nat} {b : Bool} {fs : List Dv} : kIsx a dd cn b T (.xn a dd cn fs) s = T (.bl b) s := by
  unfold kIsx
  exact propext ⟨fun ⟨_, _, h⟩ => h, fun h => ⟨fs, gErr_mk, h⟩⟩
theorem ok_isx {a dd : Addr} {cn : Nat} {t : Tn} {f : Fn Dv} : OkE Ex (fIsx a dd cn t f env s) T ↔ OkE Ex (f env s) (kIsx a dd cn (t.is cn) T) := by
  unfold fIsx; rw [ok_bind]
  refine ⟨fun h => h.mono fun d s h => ?_, fun h => h.mono fun d s h => ?_⟩
  · split at h
    · rename_i fs e; exact ⟨fs, e, h⟩
    · exact False.elim h
  · obtain ⟨fs, e, h⟩ := h
    rw [e]; exact h
theorem ok_isxT {a dd : Addr} {cn : Nat} {ts : List Tn} {f : Fn Dv} : OkE Ex (fIsxT a dd cn ts f env s) T ↔ OkE Ex (f env s) (kIsx a dd cn (ts.any fun t => t.is cn) T) := by
  unfold fIsxT; rw [ok_bind]
  refine ⟨fun h => h.mono fun d s h => ?_, fun h => h.mono fun d s h => ?_⟩
  · split at h
    · rename_i fs e; exact ⟨fs, e, h⟩
    · exact False.elim h
  · obtain ⟨fs, e, h⟩ := h
    rw [e]; exact h
def kFldX (a dd : Addr) (cn : Nat) (f : Str) (T : Dv → Sto → Prop) : Dv → Sto → Prop := fun d s => ∃ fs j x, gErr a dd cn d = some fs ∧ (fldN cn).findIdx? (· == f) = some j ∧ fs[j]? = some x ∧ T x s
theorem ok_fldX {a dd : Addr} {cn : Nat} {f : Str} {g : Fn Dv} : OkE Ex (fFldX a dd cn f g env s) T ↔ OkE Ex (g env s) (kFldX a dd cn f T) := by
  unfold fFldX; rw [ok_bind]
  refine ⟨fun h => h.mono fun d s h => ?_, fun h => h.mono fun d s h => ?_⟩
  · split at h
    · rename_i fs e
      split at h
      · rename_i j e2
        split at h
        · rename_i x e3; exact ⟨fs, j, x, e, e2, e3, h⟩
        · exact False.elim h
      · exact False.elim h
    · exact False.elim h
  · obtain ⟨fs, j, x, e, e2, e3, h⟩ := h
    simp only [e, e2, e3]; exact h
theorem kFldX_mk {a dd : Addr} {cn j : Nat} {f : Str} {fs : List Dv} {x : Dv} (h1 : (fldN cn).findIdx? (· == f) = some j) (h2 : fs[j]? = some x) : kFldX a dd cn f T (.xn a dd cn fs) s = T x s := by
  unfold kFldX
  refine propext ⟨fun ⟨fs', j', x', e1, e2, e3, h⟩ => ?_, fun h => ⟨fs, j, x, gErr_mk, h1, h2, h⟩⟩
  rw [gErr_mk] at e1
  cases e1
  rw [h1] at e2; cases e2
  rw [h2] at e3; cases e3
  exact h
def kIsiT (Ts : List String) (T : Dv → Sto → Prop) : Dv → Sto → Prop := fun x s => okX x = true ∧ T (.bl (isiAny (tyD x s) Ts)) s
def kSumS2 (x : Dv) (T : Dv → Sto → Prop) : Dv → Sto → Prop := fun i s => ∃ (j : Int) (ns : List Int), i = .int j ∧ (seqOf s x).bind intsOf = some ns ∧ isL x s = true ∧ T (.int (j + ns.sum)) s
def kSumS (Ex : Dv → Sto → Prop) (g : Fn Dv) (env : En) (T : Dv → Sto → Prop) : Dv → Sto → Prop := fun x s => OkE Ex (g env s) (kSumS2 x T)
end

/-! ### dicts by names -/
def nmKv (ns : List Str) (v : Str → Int) : List (Key × Dv) := ns.map fun n => (.inr n, .int (v n))
theorem Fl.nm {ns : List Str} {v : Str → Int} : Fl [.dk (nmKv ns v)] := fun o ho => by
  rw [List.mem_singleton.mp ho]
  show (nmKv ns v).all (fun p => below 0 p.2) = true
  unfold nmKv
  rw [List.all_map]
  exact List.all_eq_true.mpr fun _ _ => rfl
end Z

namespace Z
open PySem PySem.Spec L2

/-! ### what is heard of a refusal -/
theorem rk0_0 : (Tn.own 0).is 0 = true := by decide +kernel
theorem rk1_0 : (Tn.own 1).is 0 = false := by decide +kernel
theorem rk2_0 : (Tn.own 2).is 0 = false := by decide +kernel
theorem rk3_0 : (Tn.own 3).is 0 = false := by decide +kernel
theorem rk4_0 : (Tn.own 4).is 0 = false := by decide +kernel
theorem rk5_0 : (Tn.own 5).is 0 = false := by decide +kernel
theorem rk6_0 : (Tn.own 6).is 0 = false := by decide +kernel
theorem rk7_0 : (Tn.own 7).is 0 = false := by decide +kernel
theorem rk8_0 : (Tn.own 8).is 0 = false := by decide +kernel
theorem rk9_0 : (Tn.own 9).is 0 = false := by decide +kernel
theorem rk10_0 : (Tn.own 10).is 0 = true := by decide +kernel
theorem rk11_0 : (Tn.own 11).is 0 = false := by decide +kernel
theorem rkbf_0 : (Tn.base false).is 0 = true := by decide +kernel
theorem rkbt_0 : (Tn.base true).is 0 = false := by decide +kernel
theorem rk0_1 : (Tn.own 0).is 1 = false := by decide +kernel
theorem rk1_1 : (Tn.own 1).is 1 = true := by decide +kernel
theorem rk2_1 : (Tn.own 2).is 1 = false := by decide +kernel
theorem rk3_1 : (Tn.own 3).is 1 = false := by decide +kernel
theorem rk4_1 : (Tn.own 4).is 1 = false := by decide +kernel
theorem rk5_1 : (Tn.own 5).is 1 = false := by decide +kernel
theorem rk6_1 : (Tn.own 6).is 1 = false := by decide +kernel
theorem rk7_1 : (Tn.own 7).is 1 = false := by decide +kernel
theorem rk8_1 : (Tn.own 8).is 1 = false := by decide +kernel
theorem rk9_1 : (Tn.own 9).is 1 = false := by decide +kernel
theorem rk10_1 : (Tn.own 10).is 1 = true := by decide +kernel
theorem rk11_1 : (Tn.own 11).is 1 = false := by decide +kernel
theorem rkbf_1 : (Tn.base false).is 1 = true := by decide +kernel
theorem rkbt_1 : (Tn.base true).is 1 = false := by decide +kernel
theorem rk0_5 : (Tn.own 0).is 5 = false := by decide +kernel
theorem rk1_5 : (Tn.own 1).is 5 = false := by decide +kernel
theorem rk2_5 : (Tn.own 2).is 5 = false := by decide +kernel
theorem rk3_5 : (Tn.own 3).is 5 = false := by decide +kernel
theorem rk4_5 : (Tn.own 4).is 5 = false := by decide +kernel
theorem rk5_5 : (Tn.own 5).is 5 = true := by decide +kernel
theorem rk6_5 : (Tn.own 6).is 5 = false := by decide +kernel
theorem rk7_5 : (Tn.own 7).is 5 = false := by decide +kernel
theorem rk8_5 : (Tn.own 8).is 5 = false := by decide +kernel
theorem rk9_5 : (Tn.own 9).is 5 = false := by decide +kernel
theorem rk10_5 : (Tn.own 10).is 5 = false := by decide +kernel
theorem rk11_5 : (Tn.own 11).is 5 = true := by decide +kernel
theorem rkbf_5 : (Tn.base false).is 5 = false := by decide +kernel
theorem rkbt_5 : (Tn.base true).is 5 = true := by decide +kernel
theorem rk0_6 : (Tn.own 0).is 6 = false := by decide +kernel
theorem rk1_6 : (Tn.own 1).is 6 = false := by decide +kernel
theorem rk2_6 : (Tn.own 2).is 6 = false := by decide +kernel
theorem rk3_6 : (Tn.own 3).is 6 = false := by decide +kernel
theorem rk4_6 : (Tn.own 4).is 6 = false := by decide +kernel
theorem rk5_6 : (Tn.own 5).is 6 = false := by decide +kernel
theorem rk6_6 : (Tn.own 6).is 6 = true := by decide +kernel
theorem rk7_6 : (Tn.own 7).is 6 = false := by decide +kernel
theorem rk8_6 : (Tn.own 8).is 6 = false := by decide +kernel
theorem rk9_6 : (Tn.own 9).is 6 = false := by decide +kernel
theorem rk10_6 : (Tn.own 10).is 6 = false := by decide +kernel
theorem rk11_6 : (Tn.own 11).is 6 = true := by decide +kernel
theorem rkbf_6 : (Tn.base false).is 6 = false := by decide +kernel
theorem rkbt_6 : (Tn.base true).is 6 = true := by decide +kernel
theorem rk0_8 : (Tn.own 0).is 8 = false := by decide +kernel
theorem rk1_8 : (Tn.own 1).is 8 = false := by decide +kernel
theorem rk2_8 : (Tn.own 2).is 8 = false := by decide +kernel
theorem rk3_8 : (Tn.own 3).is 8 = false := by decide +kernel
theorem rk4_8 : (Tn.own 4).is 8 = false := by decide +kernel
theorem rk5_8 : (Tn.own 5).is 8 = false := by decide +kernel
theorem rk6_8 : (Tn.own 6).is 8 = false := by decide +kernel
theorem rk7_8 : (Tn.own 7).is 8 = false := by decide +kernel
theorem rk8_8 : (Tn.own 8).is 8 = true := by decide +kernel
theorem rk9_8 : (Tn.own 9).is 8 = false := by decide +kernel
theorem rk10_8 : (Tn.own 10).is 8 = false := by decide +kernel
theorem rk11_8 : (Tn.own 11).is 8 = true := by decide +kernel
theorem rkbf_8 : (Tn.base false).is 8 = false := by decide +kernel
theorem rkbt_8 : (Tn.base true).is 8 = true := by decide +kernel
def bFlagsH (a dd : Addr) (cn : Nat) : Fn Ct :=
  fSeq (fSet 1 (fNew (fLst (fCons (fAnd (fIsx a dd cn (.own 10) (fVar 0)) (fIsx a dd cn (.base false) (fVar 0))) (fNil)))))
  (fSeq (fDrop (fMt isL gAppend (fVar 1) (fCons (fAnd (fIsx a dd cn (.own 11) (fVar 0)) (fIsx a dd cn (.base true) (fVar 0))) (fNil))))
  (fSeq (fSet 1 (fNew (fCatL (fVar 1) (fVal (fLst (fCons (fIsx a dd cn (.own 0) (fVar 0)) (fCons (fIsx a dd cn (.own 1) (fVar 0)) (fCons (fIsx a dd cn (.own 2) (fVar 0)) (fCons (fIsx a dd cn (.own 3) (fVar 0)) (fNil))))))))))
  (fSeq (fSet 1 (fNew (fCatL (fVar 1) (fVal (fLst (fCons (fIsx a dd cn (.own 4) (fVar 0)) (fCons (fIsx a dd cn (.own 5) (fVar 0)) (fCons (fIsx a dd cn (.own 6) (fVar 0)) (fCons (fIsx a dd cn (.own 7) (fVar 0)) (fNil))))))))))
  (fRet (fVal (fCatL (fVar 1) (fVal (fLst (fCons (fIsx a dd cn (.own 8) (fVar 0)) (fCons (fIsx a dd cn (.own 9) (fVar 0)) (fNil)))))))))))
theorem kCatX_loc {n : Nat} {ds es : List Dv} {L : List Dv → Sto → Prop} {s : Sto} (h : s[n]? = some (.lst ds)) : kCat2 (.loc n) L (.ls es) s ↔ decide (ds.length + es.length ≤ 16777216) = true ∧ L (ds ++ es) s := by
  unfold kCat2
  have e : seqOf s (.loc n) = some ds := by show (match s[n]? with | some (.lst ds) => some ds | _ => none) = _; rw [h]
  have e2 : seqOf s (.ls es) = some es := rfl
  have e3 : isL (.loc n) s = true := isL_loc h
  have e4 : isL (.ls es) s = true := rfl
  rw [e, e2]
  show OkE nX (Rs.iff (isL (.loc n) s && isL (.ls es) s && decide (ds.length + es.length ≤ 16777216)) _) L ↔ _
  rw [e3, e4, ok_iff]; rfl
def FlagsAt (φ : PhiH) (cn : Nat) (bs : List Bool) : Prop := ∀ (a dd : Addr) (fs : List Dv) (s : Sto) (T : Dv → Sto → Prop), Fl s → T (.ls (bs.map .bl)) s → OkE nX (φ a dd cn [.xn a dd cn fs] s) T
theorem lst_get {s : Sto} {o : Ob} {n : Nat} (h : n = s.length) : (s ++ [o])[n]? = some o := by subst h; simp
theorem flags_0 : FlagsAt (fun a dd cn => fDef 1 2 (bFlagsH a dd cn)) 0 [true, false, true, false, false, false, false, false, false, false, false, false] := by
  intro a dd fs s T hf hT
  show OkE nX (fDef 1 2 (bFlagsH a dd 0) _ _) _
  rw [ok_def]
  refine ⟨rfl, ?_⟩
  unfold bFlagsH
  simp only [ok_ok, kDrop_ap, kRet_ap, kSet_ap, kCons2_ap, kCons_ap, kTup_ap, kLst_ap, kVal_ap, kNew_ap, kBin2_ap, kBin_ap, kUn_ap, kCall_ap, kCallL_ap, kNotT_ap, kAndT_ap, kOrT_ap, kIf_ap, kIfS_ap, kAnd_ap, kOr_ap, kNot_ap, kMt2_ap, kMt_ap, kPut4_ap, kPut3_ap, kPut2_ap, kPut_ap, kExt2_ap, kExt_ap, kAsg2_ap, kAsg_ap, kFor_ap, kLc_ap, kSl3_ap, kSl2_ap, kSl_ap, kGs_ap, ok_seq, sq_next, sq_ret, sq_brk, sq_cont, ok_nop, ok_brk, ok_cont, ok_drop, ok_ret, ok_retN, ok_set, ok_var0, ok_varS, ok_c, ok_nil, ok_cons, ok_tup, ok_lst, ok_val, ok_new, ok_bin, ok_un, ok_call, ok_callL, ok_test, tst_bl, ok_notT, ok_andT, ok_orT, ok_if, ok_ifS, ok_and, ok_or, ok_not, ok_mt, ok_put, ok_extend, pr2_mk, ok_par2, ok_asg, ok_for, ok_lc, ok_yes, ok_noPart, prt_int, ok_part, ok_sl, ok_gNm, ok_gTp, ok_gsN, ok_gsC, rg1_mk, rg2_mk, ok_rng1, ok_rng2, srcK_tup, srcK_ls, ok_src, finK_next, finK_ret, List.set_cons_zero, List.set_cons_succ, List.map_cons, List.map_nil, List.replicate, List.cons_append, List.nil_append, List.length_cons, List.length_nil, Bool.false_eq_true, eq_self, if_true, if_false, Nat.zero_add, okX_non, okX_bl, okX_int, okX_str, okX_tup, okX_ls, okX_loc, true_and, ok_isx, kIsx_mk, rk0_0, rk1_0, rk2_0, rk3_0, rk4_0, rk5_0, rk6_0, rk7_0, rk8_0, rk9_0, rk10_0, rk11_0, rkbf_0, rkbt_0]
  refine ⟨rfl, isL_loc (lst_get rfl), ?_⟩
  rw [append_loc (lst_get rfl) (by decide), bs_set]
  simp only [ok_ok, kDrop_ap, kRet_ap, kSet_ap, kCons2_ap, kCons_ap, kTup_ap, kLst_ap, kVal_ap, kNew_ap, kBin2_ap, kBin_ap, kUn_ap, kCall_ap, kCallL_ap, kNotT_ap, kAndT_ap, kOrT_ap, kIf_ap, kIfS_ap, kAnd_ap, kOr_ap, kNot_ap, kMt2_ap, kMt_ap, kPut4_ap, kPut3_ap, kPut2_ap, kPut_ap, kExt2_ap, kExt_ap, kAsg2_ap, kAsg_ap, kFor_ap, kLc_ap, kSl3_ap, kSl2_ap, kSl_ap, kGs_ap, ok_seq, sq_next, sq_ret, sq_brk, sq_cont, ok_nop, ok_brk, ok_cont, ok_drop, ok_ret, ok_retN, ok_set, ok_var0, ok_varS, ok_c, ok_nil, ok_cons, ok_tup, ok_lst, ok_val, ok_new, ok_bin, ok_un, ok_call, ok_callL, ok_test, tst_bl, ok_notT, ok_andT, ok_orT, ok_if, ok_ifS, ok_and, ok_or, ok_not, ok_mt, ok_put, ok_extend, pr2_mk, ok_par2, ok_asg, ok_for, ok_lc, ok_yes, ok_noPart, prt_int, ok_part, ok_sl, ok_gNm, ok_gTp, ok_gsN, ok_gsC, rg1_mk, rg2_mk, ok_rng1, ok_rng2, srcK_tup, srcK_ls, ok_src, finK_next, finK_ret, List.set_cons_zero, List.set_cons_succ, List.map_cons, List.map_nil, List.replicate, List.cons_append, List.nil_append, List.length_cons, List.length_nil, Bool.false_eq_true, eq_self, if_true, if_false, Nat.zero_add, okX_non, okX_bl, okX_int, okX_str, okX_tup, okX_ls, okX_loc, true_and, ok_isx, kIsx_mk, ok_catL, kCat_ap, rk0_0, rk1_0, rk2_0, rk3_0, rk4_0, rk5_0, rk6_0, rk7_0, rk8_0, rk9_0, rk10_0, rk11_0, rkbf_0, rkbt_0]
  refine ⟨rfl, ?_⟩
  rw [kCatX_loc (lst_get rfl)]
  refine ⟨rfl, ?_⟩
  simp only [ok_ok, kDrop_ap, kRet_ap, kSet_ap, kCons2_ap, kCons_ap, kTup_ap, kLst_ap, kVal_ap, kNew_ap, kBin2_ap, kBin_ap, kUn_ap, kCall_ap, kCallL_ap, kNotT_ap, kAndT_ap, kOrT_ap, kIf_ap, kIfS_ap, kAnd_ap, kOr_ap, kNot_ap, kMt2_ap, kMt_ap, kPut4_ap, kPut3_ap, kPut2_ap, kPut_ap, kExt2_ap, kExt_ap, kAsg2_ap, kAsg_ap, kFor_ap, kLc_ap, kSl3_ap, kSl2_ap, kSl_ap, kGs_ap, ok_seq, sq_next, sq_ret, sq_brk, sq_cont, ok_nop, ok_brk, ok_cont, ok_drop, ok_ret, ok_retN, ok_set, ok_var0, ok_varS, ok_c, ok_nil, ok_cons, ok_tup, ok_lst, ok_val, ok_new, ok_bin, ok_un, ok_call, ok_callL, ok_test, tst_bl, ok_notT, ok_andT, ok_orT, ok_if, ok_ifS, ok_and, ok_or, ok_not, ok_mt, ok_put, ok_extend, pr2_mk, ok_par2, ok_asg, ok_for, ok_lc, ok_yes, ok_noPart, prt_int, ok_part, ok_sl, ok_gNm, ok_gTp, ok_gsN, ok_gsC, rg1_mk, rg2_mk, ok_rng1, ok_rng2, srcK_tup, srcK_ls, ok_src, finK_next, finK_ret, List.set_cons_zero, List.set_cons_succ, List.map_cons, List.map_nil, List.replicate, List.cons_append, List.nil_append, List.length_cons, List.length_nil, Bool.false_eq_true, eq_self, if_true, if_false, Nat.zero_add, okX_non, okX_bl, okX_int, okX_str, okX_tup, okX_ls, okX_loc, true_and, ok_isx, kIsx_mk, ok_catL, kCat_ap, rk0_0, rk1_0, rk2_0, rk3_0, rk4_0, rk5_0, rk6_0, rk7_0, rk8_0, rk9_0, rk10_0, rk11_0, rkbf_0, rkbt_0]
  refine ⟨rfl, ?_⟩
  rw [kCatX_loc (lst_get rfl)]
  refine ⟨rfl, ?_⟩
  simp only [ok_ok, kDrop_ap, kRet_ap, kSet_ap, kCons2_ap, kCons_ap, kTup_ap, kLst_ap, kVal_ap, kNew_ap, kBin2_ap, kBin_ap, kUn_ap, kCall_ap, kCallL_ap, kNotT_ap, kAndT_ap, kOrT_ap, kIf_ap, kIfS_ap, kAnd_ap, kOr_ap, kNot_ap, kMt2_ap, kMt_ap, kPut4_ap, kPut3_ap, kPut2_ap, kPut_ap, kExt2_ap, kExt_ap, kAsg2_ap, kAsg_ap, kFor_ap, kLc_ap, kSl3_ap, kSl2_ap, kSl_ap, kGs_ap, ok_seq, sq_next, sq_ret, sq_brk, sq_cont, ok_nop, ok_brk, ok_cont, ok_drop, ok_ret, ok_retN, ok_set, ok_var0, ok_varS, ok_c, ok_nil, ok_cons, ok_tup, ok_lst, ok_val, ok_new, ok_bin, ok_un, ok_call, ok_callL, ok_test, tst_bl, ok_notT, ok_andT, ok_orT, ok_if, ok_ifS, ok_and, ok_or, ok_not, ok_mt, ok_put, ok_extend, pr2_mk, ok_par2, ok_asg, ok_for, ok_lc, ok_yes, ok_noPart, prt_int, ok_part, ok_sl, ok_gNm, ok_gTp, ok_gsN, ok_gsC, rg1_mk, rg2_mk, ok_rng1, ok_rng2, srcK_tup, srcK_ls, ok_src, finK_next, finK_ret, List.set_cons_zero, List.set_cons_succ, List.map_cons, List.map_nil, List.replicate, List.cons_append, List.nil_append, List.length_cons, List.length_nil, Bool.false_eq_true, eq_self, if_true, if_false, Nat.zero_add, okX_non, okX_bl, okX_int, okX_str, okX_tup, okX_ls, okX_loc, true_and, ok_isx, kIsx_mk, ok_catL, kCat_ap, rk0_0, rk1_0, rk2_0, rk3_0, rk4_0, rk5_0, rk6_0, rk7_0, rk8_0, rk9_0, rk10_0, rk11_0, rkbf_0, rkbt_0]
  refine ⟨rfl, ?_⟩
  rw [kCatX_loc (lst_get rfl)]
  refine ⟨rfl, ?_⟩
  simp only [ok_ok, kDrop_ap, kRet_ap, kSet_ap, kCons2_ap, kCons_ap, kTup_ap, kLst_ap, kVal_ap, kNew_ap, kBin2_ap, kBin_ap, kUn_ap, kCall_ap, kCallL_ap, kNotT_ap, kAndT_ap, kOrT_ap, kIf_ap, kIfS_ap, kAnd_ap, kOr_ap, kNot_ap, kMt2_ap, kMt_ap, kPut4_ap, kPut3_ap, kPut2_ap, kPut_ap, kExt2_ap, kExt_ap, kAsg2_ap, kAsg_ap, kFor_ap, kLc_ap, kSl3_ap, kSl2_ap, kSl_ap, kGs_ap, ok_seq, sq_next, sq_ret, sq_brk, sq_cont, ok_nop, ok_brk, ok_cont, ok_drop, ok_ret, ok_retN, ok_set, ok_var0, ok_varS, ok_c, ok_nil, ok_cons, ok_tup, ok_lst, ok_val, ok_new, ok_bin, ok_un, ok_call, ok_callL, ok_test, tst_bl, ok_notT, ok_andT, ok_orT, ok_if, ok_ifS, ok_and, ok_or, ok_not, ok_mt, ok_put, ok_extend, pr2_mk, ok_par2, ok_asg, ok_for, ok_lc, ok_yes, ok_noPart, prt_int, ok_part, ok_sl, ok_gNm, ok_gTp, ok_gsN, ok_gsC, rg1_mk, rg2_mk, ok_rng1, ok_rng2, srcK_tup, srcK_ls, ok_src, finK_next, finK_ret, List.set_cons_zero, List.set_cons_succ, List.map_cons, List.map_nil, List.replicate, List.cons_append, List.nil_append, List.length_cons, List.length_nil, Bool.false_eq_true, eq_self, if_true, if_false, Nat.zero_add, okX_non, okX_bl, okX_int, okX_str, okX_tup, okX_ls, okX_loc, true_and]
  rw [List.append_assoc, List.append_assoc]
  exact fin_base hf (by decide) hT
theorem flags_1 : FlagsAt (fun a dd cn => fDef 1 2 (bFlagsH a dd cn)) 1 [true, false, false, true, false, false, false, false, false, false, false, false] := by
  intro a dd fs s T hf hT
  show OkE nX (fDef 1 2 (bFlagsH a dd 1) _ _) _
  rw [ok_def]
  refine ⟨rfl, ?_⟩
  unfold bFlagsH
  simp only [ok_ok, kDrop_ap, kRet_ap, kSet_ap, kCons2_ap, kCons_ap, kTup_ap, kLst_ap, kVal_ap, kNew_ap, kBin2_ap, kBin_ap, kUn_ap, kCall_ap, kCallL_ap, kNotT_ap, kAndT_ap, kOrT_ap, kIf_ap, kIfS_ap, kAnd_ap, kOr_ap, kNot_ap, kMt2_ap, kMt_ap, kPut4_ap, kPut3_ap, kPut2_ap, kPut_ap, kExt2_ap, kExt_ap, kAsg2_ap, kAsg_ap, kFor_ap, kLc_ap, kSl3_ap, kSl2_ap, kSl_ap, kGs_ap, ok_seq, sq_next, sq_ret, sq_brk, sq_cont, ok_nop, ok_brk, ok_cont, ok_drop, ok_ret, ok_retN, ok_set, ok_var0, ok_varS, ok_c, ok_nil, ok_cons, ok_tup, ok_lst, ok_val, ok_new, ok_bin, ok_un, ok_call, ok_callL, ok_test, tst_bl, ok_notT, ok_andT, ok_orT, ok_if, ok_ifS, ok_and, ok_or, ok_not, ok_mt, ok_put, ok_extend, pr2_mk, ok_par2, ok_asg, ok_for, ok_lc, ok_yes, ok_noPart, prt_int, ok_part, ok_sl, ok_gNm, ok_gTp, ok_gsN, ok_gsC, rg1_mk, rg2_mk, ok_rng1, ok_rng2, srcK_tup, srcK_ls, ok_src, finK_next, finK_ret, List.set_cons_zero, List.set_cons_succ, List.map_cons, List.map_nil, List.replicate, List.cons_append, List.nil_append, List.length_cons, List.length_nil, Bool.false_eq_true, eq_self, if_true, if_false, Nat.zero_add, okX_non, okX_bl, okX_int, okX_str, okX_tup, okX_ls, okX_loc, true_and, ok_isx, kIsx_mk, rk0_1, rk1_1, rk2_1, rk3_1, rk4_1, rk5_1, rk6_1, rk7_1, rk8_1, rk9_1, rk10_1, rk11_1, rkbf_1, rkbt_1]
  refine ⟨rfl, isL_loc (lst_get rfl), ?_⟩
  rw [append_loc (lst_get rfl) (by decide), bs_set]
  simp only [ok_ok, kDrop_ap, kRet_ap, kSet_ap, kCons2_ap, kCons_ap, kTup_ap, kLst_ap, kVal_ap, kNew_ap, kBin2_ap, kBin_ap, kUn_ap, kCall_ap, kCallL_ap, kNotT_ap, kAndT_ap, kOrT_ap, kIf_ap, kIfS_ap, kAnd_ap, kOr_ap, kNot_ap, kMt2_ap, kMt_ap, kPut4_ap, kPut3_ap, kPut2_ap, kPut_ap, kExt2_ap, kExt_ap, kAsg2_ap, kAsg_ap, kFor_ap, kLc_ap, kSl3_ap, kSl2_ap, kSl_ap, kGs_ap, ok_seq, sq_next, sq_ret, sq_brk, sq_cont, ok_nop, ok_brk, ok_cont, ok_drop, ok_ret, ok_retN, ok_set, ok_var0, ok_varS, ok_c, ok_nil, ok_cons, ok_tup, ok_lst, ok_val, ok_new, ok_bin, ok_un, ok_call, ok_callL, ok_test, tst_bl, ok_notT, ok_andT, ok_orT, ok_if, ok_ifS, ok_and, ok_or, ok_not, ok_mt, ok_put, ok_extend, pr2_mk, ok_par2, ok_asg, ok_for, ok_lc, ok_yes, ok_noPart, prt_int, ok_part, ok_sl, ok_gNm, ok_gTp, ok_gsN, ok_gsC, rg1_mk, rg2_mk, ok_rng1, ok_rng2, srcK_tup, srcK_ls, ok_src, finK_next, finK_ret, List.set_cons_zero, List.set_cons_succ, List.map_cons, List.map_nil, List.replicate, List.cons_append, List.nil_append, List.length_cons, List.length_nil, Bool.false_eq_true, eq_self, if_true, if_false, Nat.zero_add, okX_non, okX_bl, okX_int, okX_str, okX_tup, okX_ls, okX_loc, true_and, ok_isx, kIsx_mk, ok_catL, kCat_ap, rk0_1, rk1_1, rk2_1, rk3_1, rk4_1, rk5_1, rk6_1, rk7_1, rk8_1, rk9_1, rk10_1, rk11_1, rkbf_1, rkbt_1]
  refine ⟨rfl, ?_⟩
  rw [kCatX_loc (lst_get rfl)]
  refine ⟨rfl, ?_⟩
  simp only [ok_ok, kDrop_ap, kRet_ap, kSet_ap, kCons2_ap, kCons_ap, kTup_ap, kLst_ap, kVal_ap, kNew_ap, kBin2_ap, kBin_ap, kUn_ap, kCall_ap, kCallL_ap, kNotT_ap, kAndT_ap, kOrT_ap, kIf_ap, kIfS_ap, kAnd_ap, kOr_ap, kNot_ap, kMt2_ap, kMt_ap, kPut4_ap, kPut3_ap, kPut2_ap, kPut_ap, kExt2_ap, kExt_ap, kAsg2_ap, kAsg_ap, kFor_ap, kLc_ap, kSl3_ap, kSl2_ap, kSl_ap, kGs_ap, ok_seq, sq_next, sq_ret, sq_brk, sq_cont, ok_nop, ok_brk, ok_cont, ok_drop, ok_ret, ok_retN, ok_set, ok_var0, ok_varS, ok_c, ok_nil, ok_cons, ok_tup, ok_lst, ok_val, ok_new, ok_bin, ok_un, ok_call, ok_callL, ok_test, tst_bl, ok_notT, ok_andT, ok_orT, ok_if, ok_ifS, ok_and, ok_or, ok_not, ok_mt, ok_put, ok_extend, pr2_mk, ok_par2, ok_asg, ok_for, ok_lc, ok_yes, ok_noPart, prt_int, ok_part, ok_sl, ok_gNm, ok_gTp, ok_gsN, ok_gsC, rg1_mk, rg2_mk, ok_rng1, ok_rng2, srcK_tup, srcK_ls, ok_src, finK_next, finK_ret, List.set_cons_zero, List.set_cons_succ, List.map_cons, List.map_nil, List.replicate, List.cons_append, List.nil_append, List.length_cons, List.length_nil, Bool.false_eq_true, eq_self, if_true, if_false, Nat.zero_add, okX_non, okX_bl, okX_int, okX_str, okX_tup, okX_ls, okX_loc, true_and, ok_isx, kIsx_mk, ok_catL, kCat_ap, rk0_1, rk1_1, rk2_1, rk3_1, rk4_1, rk5_1, rk6_1, rk7_1, rk8_1, rk9_1, rk10_1, rk11_1, rkbf_1, rkbt_1]
  refine ⟨rfl, ?_⟩
  rw [kCatX_loc (lst_get rfl)]
  refine ⟨rfl, ?_⟩
  simp only [ok_ok, kDrop_ap, kRet_ap, kSet_ap, kCons2_ap, kCons_ap, kTup_ap, kLst_ap, kVal_ap, kNew_ap, kBin2_ap, kBin_ap, kUn_ap, kCall_ap, kCallL_ap, kNotT_ap, kAndT_ap, kOrT_ap, kIf_ap, kIfS_ap, kAnd_ap, kOr_ap, kNot_ap, kMt2_ap, kMt_ap, kPut4_ap, kPut3_ap, kPut2_ap, kPut_ap, kExt2_ap, kExt_ap, kAsg2_ap, kAsg_ap, kFor_ap, kLc_ap, kSl3_ap, kSl2_ap, kSl_ap, kGs_ap, ok_seq, sq_next, sq_ret, sq_brk, sq_cont, ok_nop, ok_brk, ok_cont, ok_drop, ok_ret, ok_retN, ok_set, ok_var0, ok_varS, ok_c, ok_nil, ok_cons, ok_tup, ok_lst, ok_val, ok_new, ok_bin, ok_un, ok_call, ok_callL, ok_test, tst_bl, ok_notT, ok_andT, ok_orT, ok_if, ok_ifS, ok_and, ok_or, ok_not, ok_mt, ok_put, ok_extend, pr2_mk, ok_par2, ok_asg, ok_for, ok_lc, ok_yes, ok_noPart, prt_int, ok_part, ok_sl, ok_gNm, ok_gTp, ok_gsN, ok_gsC, rg1_mk, rg2_mk, ok_rng1, ok_rng2, srcK_tup, srcK_ls, ok_src, finK_next, finK_ret, List.set_cons_zero, List.set_cons_succ, List.map_cons, List.map_nil, List.replicate, List.cons_append, List.nil_append, List.length_cons, List.length_nil, Bool.false_eq_true, eq_self, if_true, if_false, Nat.zero_add, okX_non, okX_bl, okX_int, okX_str, okX_tup, okX_ls, okX_loc, true_and, ok_isx, kIsx_mk, ok_catL, kCat_ap, rk0_1, rk1_1, rk2_1, rk3_1, rk4_1, rk5_1, rk6_1, rk7_1, rk8_1, rk9_1, rk10_1, rk11_1, rkbf_1, rkbt_1]
  refine ⟨rfl, ?_⟩
  rw [kCatX_loc (lst_get rfl)]
  refine ⟨rfl, ?_⟩
  simp only [ok_ok, kDrop_ap, kRet_ap, kSet_ap, kCons2_ap, kCons_ap, kTup_ap, kLst_ap, kVal_ap, kNew_ap, kBin2_ap, kBin_ap, kUn_ap, kCall_ap, kCallL_ap, kNotT_ap, kAndT_ap, kOrT_ap, kIf_ap, kIfS_ap, kAnd_ap, kOr_ap, kNot_ap, kMt2_ap, kMt_ap, kPut4_ap, kPut3_ap, kPut2_ap, kPut_ap, kExt2_ap, kExt_ap, kAsg2_ap, kAsg_ap, kFor_ap, kLc_ap, kSl3_ap, kSl2_ap, kSl_ap, kGs_ap, ok_seq, sq_next, sq_ret, sq_brk, sq_cont, ok_nop, ok_brk, ok_cont, ok_drop, ok_ret, ok_retN, ok_set, ok_var0, ok_varS, ok_c, ok_nil, ok_cons, ok_tup, ok_lst, ok_val, ok_new, ok_bin, ok_un, ok_call, ok_callL, ok_test, tst_bl, ok_notT, ok_andT, ok_orT, ok_if, ok_ifS, ok_and, ok_or, ok_not, ok_mt, ok_put, ok_extend, pr2_mk, ok_par2, ok_asg, ok_for, ok_lc, ok_yes, ok_noPart, prt_int, ok_part, ok_sl, ok_gNm, ok_gTp, ok_gsN, ok_gsC, rg1_mk, rg2_mk, ok_rng1, ok_rng2, srcK_tup, srcK_ls, ok_src, finK_next, finK_ret, List.set_cons_zero, List.set_cons_succ, List.map_cons, List.map_nil, List.replicate, List.cons_append, List.nil_append, List.length_cons, List.length_nil, Bool.false_eq_true, eq_self, if_true, if_false, Nat.zero_add, okX_non, okX_bl, okX_int, okX_str, okX_tup, okX_ls, okX_loc, true_and]
  rw [List.append_assoc, List.append_assoc]
  exact fin_base hf (by decide) hT
theorem flags_5 : FlagsAt (fun a dd cn => fDef 1 2 (bFlagsH a dd cn)) 5 [false, true, false, false, false, false, false, true, false, false, false, false] := by
  intro a dd fs s T hf hT
  show OkE nX (fDef 1 2 (bFlagsH a dd 5) _ _) _
  rw [ok_def]
  refine ⟨rfl, ?_⟩
  unfold bFlagsH
  simp only [ok_ok, kDrop_ap, kRet_ap, kSet_ap, kCons2_ap, kCons_ap, kTup_ap, kLst_ap, kVal_ap, kNew_ap, kBin2_ap, kBin_ap, kUn_ap, kCall_ap, kCallL_ap, kNotT_ap, kAndT_ap, kOrT_ap, kIf_ap, kIfS_ap, kAnd_ap, kOr_ap, kNot_ap, kMt2_ap, kMt_ap, kPut4_ap, kPut3_ap, kPut2_ap, kPut_ap, kExt2_ap, kExt_ap, kAsg2_ap, kAsg_ap, kFor_ap, kLc_ap, kSl3_ap, kSl2_ap, kSl_ap, kGs_ap, ok_seq, sq_next, sq_ret, sq_brk, sq_cont, ok_nop, ok_brk, ok_cont, ok_drop, ok_ret, ok_retN, ok_set, ok_var0, ok_varS, ok_c, ok_nil, ok_cons, ok_tup, ok_lst, ok_val, ok_new, ok_bin, ok_un, ok_call, ok_callL, ok_test, tst_bl, ok_notT, ok_andT, ok_orT, ok_if, ok_ifS, ok_and, ok_or, ok_not, ok_mt, ok_put, ok_extend, pr2_mk, ok_par2, ok_asg, ok_for, ok_lc, ok_yes, ok_noPart, prt_int, ok_part, ok_sl, ok_gNm, ok_gTp, ok_gsN, ok_gsC, rg1_mk, rg2_mk, ok_rng1, ok_rng2, srcK_tup, srcK_ls, ok_src, finK_next, finK_ret, List.set_cons_zero, List.set_cons_succ, List.map_cons, List.map_nil, List.replicate, List.cons_append, List.nil_append, List.length_cons, List.length_nil, Bool.false_eq_true, eq_self, if_true, if_false, Nat.zero_add, okX_non, okX_bl, okX_int, okX_str, okX_tup, okX_ls, okX_loc, true_and, ok_isx, kIsx_mk, rk0_5, rk1_5, rk2_5, rk3_5, rk4_5, rk5_5, rk6_5, rk7_5, rk8_5, rk9_5, rk10_5, rk11_5, rkbf_5, rkbt_5]
  refine ⟨rfl, isL_loc (lst_get rfl), ?_⟩
  rw [append_loc (lst_get rfl) (by decide), bs_set]
  simp only [ok_ok, kDrop_ap, kRet_ap, kSet_ap, kCons2_ap, kCons_ap, kTup_ap, kLst_ap, kVal_ap, kNew_ap, kBin2_ap, kBin_ap, kUn_ap, kCall_ap, kCallL_ap, kNotT_ap, kAndT_ap, kOrT_ap, kIf_ap, kIfS_ap, kAnd_ap, kOr_ap, kNot_ap, kMt2_ap, kMt_ap, kPut4_ap, kPut3_ap, kPut2_ap, kPut_ap, kExt2_ap, kExt_ap, kAsg2_ap, kAsg_ap, kFor_ap, kLc_ap, kSl3_ap, kSl2_ap, kSl_ap, kGs_ap, ok_seq, sq_next, sq_ret, sq_brk, sq_cont, ok_nop, ok_brk, ok_cont, ok_drop, ok_ret, ok_retN, ok_set, ok_var0, ok_varS, ok_c, ok_nil, ok_cons, ok_tup, ok_lst, ok_val, ok_new, ok_bin, ok_un, ok_call, ok_callL, ok_test, tst_bl, ok_notT, ok_andT, ok_orT, ok_if, ok_ifS, ok_and, ok_or, ok_not, ok_mt, ok_put, ok_extend, pr2_mk, ok_par2, ok_asg, ok_for, ok_lc, ok_yes, ok_noPart, prt_int, ok_part, ok_sl, ok_gNm, ok_gTp, ok_gsN, ok_gsC, rg1_mk, rg2_mk, ok_rng1, ok_rng2, srcK_tup, srcK_ls, ok_src, finK_next, finK_ret, List.set_cons_zero, List.set_cons_succ, List.map_cons, List.map_nil, List.replicate, List.cons_append, List.nil_append, List.length_cons, List.length_nil, Bool.false_eq_true, eq_self, if_true, if_false, Nat.zero_add, okX_non, okX_bl, okX_int, okX_str, okX_tup, okX_ls, okX_loc, true_and, ok_isx, kIsx_mk, ok_catL, kCat_ap, rk0_5, rk1_5, rk2_5, rk3_5, rk4_5, rk5_5, rk6_5, rk7_5, rk8_5, rk9_5, rk10_5, rk11_5, rkbf_5, rkbt_5]
  refine ⟨rfl, ?_⟩
  rw [kCatX_loc (lst_get rfl)]
  refine ⟨rfl, ?_⟩
  simp only [ok_ok, kDrop_ap, kRet_ap, kSet_ap, kCons2_ap, kCons_ap, kTup_ap, kLst_ap, kVal_ap, kNew_ap, kBin2_ap, kBin_ap, kUn_ap, kCall_ap, kCallL_ap, kNotT_ap, kAndT_ap, kOrT_ap, kIf_ap, kIfS_ap, kAnd_ap, kOr_ap, kNot_ap, kMt2_ap, kMt_ap, kPut4_ap, kPut3_ap, kPut2_ap, kPut_ap, kExt2_ap, kExt_ap, kAsg2_ap, kAsg_ap, kFor_ap, kLc_ap, kSl3_ap, kSl2_ap, kSl_ap, kGs_ap, ok_seq, sq_next, sq_ret, sq_brk, sq_cont, ok_nop, ok_brk, ok_cont, ok_drop, ok_ret, ok_retN, ok_set, ok_var0, ok_varS, ok_c, ok_nil, ok_cons, ok_tup, ok_lst, ok_val, ok_new, ok_bin, ok_un, ok_call, ok_callL, ok_test, tst_bl, ok_notT, ok_andT, ok_orT, ok_if, ok_ifS, ok_and, ok_or, ok_not, ok_mt, ok_put, ok_extend, pr2_mk, ok_par2, ok_asg, ok_for, ok_lc, ok_yes, ok_noPart, prt_int, ok_part, ok_sl, ok_gNm, ok_gTp, ok_gsN, ok_gsC, rg1_mk, rg2_mk, ok_rng1, ok_rng2, srcK_tup, srcK_ls, ok_src, finK_next, finK_ret, List.set_cons_zero, List.set_cons_succ, List.map_cons, List.map_nil, List.replicate, List.cons_append, List.nil_append, List.length_cons, List.length_nil, Bool.false_eq_true, eq_self, if_true, if_false, Nat.zero_add, okX_non, okX_bl, okX_int, okX_str, okX_tup, okX_ls, okX_loc, true_and, ok_isx, kIsx_mk, ok_catL, kCat_ap, rk0_5, rk1_5, rk2_5, rk3_5, rk4_5, rk5_5, rk6_5, rk7_5, rk8_5, rk9_5, rk10_5, rk11_5, rkbf_5, rkbt_5]
  refine ⟨rfl, ?_⟩
  rw [kCatX_loc (lst_get rfl)]
  refine ⟨rfl, ?_⟩
  simp only [ok_ok, kDrop_ap, kRet_ap, kSet_ap, kCons2_ap, kCons_ap, kTup_ap, kLst_ap, kVal_ap, kNew_ap, kBin2_ap, kBin_ap, kUn_ap, kCall_ap, kCallL_ap, kNotT_ap, kAndT_ap, kOrT_ap, kIf_ap, kIfS_ap, kAnd_ap, kOr_ap, kNot_ap, kMt2_ap, kMt_ap, kPut4_ap, kPut3_ap, kPut2_ap, kPut_ap, kExt2_ap, kExt_ap, kAsg2_ap, kAsg_ap, kFor_ap, kLc_ap, kSl3_ap, kSl2_ap, kSl_ap, kGs_ap, ok_seq, sq_next, sq_ret, sq_brk, sq_cont, ok_nop, ok_brk, ok_cont, ok_drop, ok_ret, ok_retN, ok_set, ok_var0, ok_varS, ok_c, ok_nil, ok_cons, ok_tup, ok_lst, ok_val, ok_new, ok_bin, ok_un, ok_call, ok_callL, ok_test, tst_bl, ok_notT, ok_andT, ok_orT, ok_if, ok_ifS, ok_and, ok_or, ok_not, ok_mt, ok_put, ok_extend, pr2_mk, ok_par2, ok_asg, ok_for, ok_lc, ok_yes, ok_noPart, prt_int, ok_part, ok_sl, ok_gNm, ok_gTp, ok_gsN, ok_gsC, rg1_mk, rg2_mk, ok_rng1, ok_rng2, srcK_tup, srcK_ls, ok_src, finK_next, finK_ret, List.set_cons_zero, List.set_cons_succ, List.map_cons, List.map_nil, List.replicate, List.cons_append, List.nil_append, List.length_cons, List.length_nil, Bool.false_eq_true, eq_self, if_true, if_false, Nat.zero_add, okX_non, okX_bl, okX_int, okX_str, okX_tup, okX_ls, okX_loc, true_and, ok_isx, kIsx_mk, ok_catL, kCat_ap, rk0_5, rk1_5, rk2_5, rk3_5, rk4_5, rk5_5, rk6_5, rk7_5, rk8_5, rk9_5, rk10_5, rk11_5, rkbf_5, rkbt_5]
  refine ⟨rfl, ?_⟩
  rw [kCatX_loc (lst_get rfl)]
  refine ⟨rfl, ?_⟩
  simp only [ok_ok, kDrop_ap, kRet_ap, kSet_ap, kCons2_ap, kCons_ap, kTup_ap, kLst_ap, kVal_ap, kNew_ap, kBin2_ap, kBin_ap, kUn_ap, kCall_ap, kCallL_ap, kNotT_ap, kAndT_ap, kOrT_ap, kIf_ap, kIfS_ap, kAnd_ap, kOr_ap, kNot_ap, kMt2_ap, kMt_ap, kPut4_ap, kPut3_ap, kPut2_ap, kPut_ap, kExt2_ap, kExt_ap, kAsg2_ap, kAsg_ap, kFor_ap, kLc_ap, kSl3_ap, kSl2_ap, kSl_ap, kGs_ap, ok_seq, sq_next, sq_ret, sq_brk, sq_cont, ok_nop, ok_brk, ok_cont, ok_drop, ok_ret, ok_retN, ok_set, ok_var0, ok_varS, ok_c, ok_nil, ok_cons, ok_tup, ok_lst, ok_val, ok_new, ok_bin, ok_un, ok_call, ok_callL, ok_test, tst_bl, ok_notT, ok_andT, ok_orT, ok_if, ok_ifS, ok_and, ok_or, ok_not, ok_mt, ok_put, ok_extend, pr2_mk, ok_par2, ok_asg, ok_for, ok_lc, ok_yes, ok_noPart, prt_int, ok_part, ok_sl, ok_gNm, ok_gTp, ok_gsN, ok_gsC, rg1_mk, rg2_mk, ok_rng1, ok_rng2, srcK_tup, srcK_ls, ok_src, finK_next, finK_ret, List.set_cons_zero, List.set_cons_succ, List.map_cons, List.map_nil, List.replicate, List.cons_append, List.nil_append, List.length_cons, List.length_nil, Bool.false_eq_true, eq_self, if_true, if_false, Nat.zero_add, okX_non, okX_bl, okX_int, okX_str, okX_tup, okX_ls, okX_loc, true_and]
  rw [List.append_assoc, List.append_assoc]
  exact fin_base hf (by decide) hT
theorem flags_6 : FlagsAt (fun a dd cn => fDef 1 2 (bFlagsH a dd cn)) 6 [false, true, false, false, false, false, false, false, true, false, false, false] := by
  intro a dd fs s T hf hT
  show OkE nX (fDef 1 2 (bFlagsH a dd 6) _ _) _
  rw [ok_def]
  refine ⟨rfl, ?_⟩
  unfold bFlagsH
  simp only [ok_ok, kDrop_ap, kRet_ap, kSet_ap, kCons2_ap, kCons_ap, kTup_ap, kLst_ap, kVal_ap, kNew_ap, kBin2_ap, kBin_ap, kUn_ap, kCall_ap, kCallL_ap, kNotT_ap, kAndT_ap, kOrT_ap, kIf_ap, kIfS_ap, kAnd_ap, kOr_ap, kNot_ap, kMt2_ap, kMt_ap, kPut4_ap, kPut3_ap, kPut2_ap, kPut_ap, kExt2_ap, kExt_ap, kAsg2_ap, kAsg_ap, kFor_ap, kLc_ap, kSl3_ap, kSl2_ap, kSl_ap, kGs_ap, ok_seq, sq_next, sq_ret, sq_brk, sq_cont, ok_nop, ok_brk, ok_cont, ok_drop, ok_ret, ok_retN, ok_set, ok_var0, ok_varS, ok_c, ok_nil, ok_cons, ok_tup, ok_lst, ok_val, ok_new, ok_bin, ok_un, ok_call, ok_callL, ok_test, tst_bl, ok_notT, ok_andT, ok_orT, ok_if, ok_ifS, ok_and, ok_or, ok_not, ok_mt, ok_put, ok_extend, pr2_mk, ok_par2, ok_asg, ok_for, ok_lc, ok_yes, ok_noPart, prt_int, ok_part, ok_sl, ok_gNm, ok_gTp, ok_gsN, ok_gsC, rg1_mk, rg2_mk, ok_rng1, ok_rng2, srcK_tup, srcK_ls, ok_src, finK_next, finK_ret, List.set_cons_zero, List.set_cons_succ, List.map_cons, List.map_nil, List.replicate, List.cons_append, List.nil_append, List.length_cons, List.length_nil, Bool.false_eq_true, eq_self, if_true, if_false, Nat.zero_add, okX_non, okX_bl, okX_int, okX_str, okX_tup, okX_ls, okX_loc, true_and, ok_isx, kIsx_mk, rk0_6, rk1_6, rk2_6, rk3_6, rk4_6, rk5_6, rk6_6, rk7_6, rk8_6, rk9_6, rk10_6, rk11_6, rkbf_6, rkbt_6]
  refine ⟨rfl, isL_loc (lst_get rfl), ?_⟩
  rw [append_loc (lst_get rfl) (by decide), bs_set]
  simp only [ok_ok, kDrop_ap, kRet_ap, kSet_ap, kCons2_ap, kCons_ap, kTup_ap, kLst_ap, kVal_ap, kNew_ap, kBin2_ap, kBin_ap, kUn_ap, kCall_ap, kCallL_ap, kNotT_ap, kAndT_ap, kOrT_ap, kIf_ap, kIfS_ap, kAnd_ap, kOr_ap, kNot_ap, kMt2_ap, kMt_ap, kPut4_ap, kPut3_ap, kPut2_ap, kPut_ap, kExt2_ap, kExt_ap, kAsg2_ap, kAsg_ap, kFor_ap, kLc_ap, kSl3_ap, kSl2_ap, kSl_ap, kGs_ap, ok_seq, sq_next, sq_ret, sq_brk, sq_cont, ok_nop, ok_brk, ok_cont, ok_drop, ok_ret, ok_retN, ok_set, ok_var0, ok_varS, ok_c, ok_nil, ok_cons, ok_tup, ok_lst, ok_val, ok_new, ok_bin, ok_un, ok_call, ok_callL, ok_test, tst_bl, ok_notT, ok_andT, ok_orT, ok_if, ok_ifS, ok_and, ok_or, ok_not, ok_mt, ok_put, ok_extend, pr2_mk, ok_par2, ok_asg, ok_for, ok_lc, ok_yes, ok_noPart, prt_int, ok_part, ok_sl, ok_gNm, ok_gTp, ok_gsN, ok_gsC, rg1_mk, rg2_mk, ok_rng1, ok_rng2, srcK_tup, srcK_ls, ok_src, finK_next, finK_ret, List.set_cons_zero, List.set_cons_succ, List.map_cons, List.map_nil, List.replicate, List.cons_append, List.nil_append, List.length_cons, List.length_nil, Bool.false_eq_true, eq_self, if_true, if_false, Nat.zero_add, okX_non, okX_bl, okX_int, okX_str, okX_tup, okX_ls, okX_loc, true_and, ok_isx, kIsx_mk, ok_catL, kCat_ap, rk0_6, rk1_6, rk2_6, rk3_6, rk4_6, rk5_6, rk6_6, rk7_6, rk8_6, rk9_6, rk10_6, rk11_6, rkbf_6, rkbt_6]
  refine ⟨rfl, ?_⟩
  rw [kCatX_loc (lst_get rfl)]
  refine ⟨rfl, ?_⟩
  simp only [ok_ok, kDrop_ap, kRet_ap, kSet_ap, kCons2_ap, kCons_ap, kTup_ap, kLst_ap, kVal_ap, kNew_ap, kBin2_ap, kBin_ap, kUn_ap, kCall_ap, kCallL_ap, kNotT_ap, kAndT_ap, kOrT_ap, kIf_ap, kIfS_ap, kAnd_ap, kOr_ap, kNot_ap, kMt2_ap, kMt_ap, kPut4_ap, kPut3_ap, kPut2_ap, kPut_ap, kExt2_ap, kExt_ap, kAsg2_ap, kAsg_ap, kFor_ap, kLc_ap, kSl3_ap, kSl2_ap, kSl_ap, kGs_ap, ok_seq, sq_next, sq_ret, sq_brk, sq_cont, ok_nop, ok_brk, ok_cont, ok_drop, ok_ret, ok_retN, ok_set, ok_var0, ok_varS, ok_c, ok_nil, ok_cons, ok_tup, ok_lst, ok_val, ok_new, ok_bin, ok_un, ok_call, ok_callL, ok_test, tst_bl, ok_notT, ok_andT, ok_orT, ok_if, ok_ifS, ok_and, ok_or, ok_not, ok_mt, ok_put, ok_extend, pr2_mk, ok_par2, ok_asg, ok_for, ok_lc, ok_yes, ok_noPart, prt_int, ok_part, ok_sl, ok_gNm, ok_gTp, ok_gsN, ok_gsC, rg1_mk, rg2_mk, ok_rng1, ok_rng2, srcK_tup, srcK_ls, ok_src, finK_next, finK_ret, List.set_cons_zero, List.set_cons_succ, List.map_cons, List.map_nil, List.replicate, List.cons_append, List.nil_append, List.length_cons, List.length_nil, Bool.false_eq_true, eq_self, if_true, if_false, Nat.zero_add, okX_non, okX_bl, okX_int, okX_str, okX_tup, okX_ls, okX_loc, true_and, ok_isx, kIsx_mk, ok_catL, kCat_ap, rk0_6, rk1_6, rk2_6, rk3_6, rk4_6, rk5_6, rk6_6, rk7_6, rk8_6, rk9_6, rk10_6, rk11_6, rkbf_6, rkbt_6]
  refine ⟨rfl, ?_⟩
  rw [kCatX_loc (lst_get rfl)]
  refine ⟨rfl, ?_⟩
  simp only [ok_ok, kDrop_ap, kRet_ap, kSet_ap, kCons2_ap, kCons_ap, kTup_ap, kLst_ap, kVal_ap, kNew_ap, kBin2_ap, kBin_ap, kUn_ap, kCall_ap, kCallL_ap, kNotT_ap, kAndT_ap, kOrT_ap, kIf_ap, kIfS_ap, kAnd_ap, kOr_ap, kNot_ap, kMt2_ap, kMt_ap, kPut4_ap, kPut3_ap, kPut2_ap, kPut_ap, kExt2_ap, kExt_ap, kAsg2_ap, kAsg_ap, kFor_ap, kLc_ap, kSl3_ap, kSl2_ap, kSl_ap, kGs_ap, ok_seq, sq_next, sq_ret, sq_brk, sq_cont, ok_nop, ok_brk, ok_cont, ok_drop, ok_ret, ok_retN, ok_set, ok_var0, ok_varS, ok_c, ok_nil, ok_cons, ok_tup, ok_lst, ok_val, ok_new, ok_bin, ok_un, ok_call, ok_callL, ok_test, tst_bl, ok_notT, ok_andT, ok_orT, ok_if, ok_ifS, ok_and, ok_or, ok_not, ok_mt, ok_put, ok_extend, pr2_mk, ok_par2, ok_asg, ok_for, ok_lc, ok_yes, ok_noPart, prt_int, ok_part, ok_sl, ok_gNm, ok_gTp, ok_gsN, ok_gsC, rg1_mk, rg2_mk, ok_rng1, ok_rng2, srcK_tup, srcK_ls, ok_src, finK_next, finK_ret, List.set_cons_zero, List.set_cons_succ, List.map_cons, List.map_nil, List.replicate, List.cons_append, List.nil_append, List.length_cons, List.length_nil, Bool.false_eq_true, eq_self, if_true, if_false, Nat.zero_add, okX_non, okX_bl, okX_int, okX_str, okX_tup, okX_ls, okX_loc, true_and, ok_isx, kIsx_mk, ok_catL, kCat_ap, rk0_6, rk1_6, rk2_6, rk3_6, rk4_6, rk5_6, rk6_6, rk7_6, rk8_6, rk9_6, rk10_6, rk11_6, rkbf_6, rkbt_6]
  refine ⟨rfl, ?_⟩
  rw [kCatX_loc (lst_get rfl)]
  refine ⟨rfl, ?_⟩
  simp only [ok_ok, kDrop_ap, kRet_ap, kSet_ap, kCons2_ap, kCons_ap, kTup_ap, kLst_ap, kVal_ap, kNew_ap, kBin2_ap, kBin_ap, kUn_ap, kCall_ap, kCallL_ap, kNotT_ap, kAndT_ap, kOrT_ap, kIf_ap, kIfS_ap, kAnd_ap, kOr_ap, kNot_ap, kMt2_ap, kMt_ap, kPut4_ap, kPut3_ap, kPut2_ap, kPut_ap, kExt2_ap, kExt_ap, kAsg2_ap, kAsg_ap, kFor_ap, kLc_ap, kSl3_ap, kSl2_ap, kSl_ap, kGs_ap, ok_seq, sq_next, sq_ret, sq_brk, sq_cont, ok_nop, ok_brk, ok_cont, ok_drop, ok_ret, ok_retN, ok_set, ok_var0, ok_varS, ok_c, ok_nil, ok_cons, ok_tup, ok_lst, ok_val, ok_new, ok_bin, ok_un, ok_call, ok_callL, ok_test, tst_bl, ok_notT, ok_andT, ok_orT, ok_if, ok_ifS, ok_and, ok_or, ok_not, ok_mt, ok_put, ok_extend, pr2_mk, ok_par2, ok_asg, ok_for, ok_lc, ok_yes, ok_noPart, prt_int, ok_part, ok_sl, ok_gNm, ok_gTp, ok_gsN, ok_gsC, rg1_mk, rg2_mk, ok_rng1, ok_rng2, srcK_tup, srcK_ls, ok_src, finK_next, finK_ret, List.set_cons_zero, List.set_cons_succ, List.map_cons, List.map_nil, List.replicate, List.cons_append, List.nil_append, List.length_cons, List.length_nil, Bool.false_eq_true, eq_self, if_true, if_false, Nat.zero_add, okX_non, okX_bl, okX_int, okX_str, okX_tup, okX_ls, okX_loc, true_and]
  rw [List.append_assoc, List.append_assoc]
  exact fin_base hf (by decide) hT
theorem flags_8 : FlagsAt (fun a dd cn => fDef 1 2 (bFlagsH a dd cn)) 8 [false, true, false, false, false, false, false, false, false, false, true, false] := by
  intro a dd fs s T hf hT
  show OkE nX (fDef 1 2 (bFlagsH a dd 8) _ _) _
  rw [ok_def]
  refine ⟨rfl, ?_⟩
  unfold bFlagsH
  simp only [ok_ok, kDrop_ap, kRet_ap, kSet_ap, kCons2_ap, kCons_ap, kTup_ap, kLst_ap, kVal_ap, kNew_ap, kBin2_ap, kBin_ap, kUn_ap, kCall_ap, kCallL_ap, kNotT_ap, kAndT_ap, kOrT_ap, kIf_ap, kIfS_ap, kAnd_ap, kOr_ap, kNot_ap, kMt2_ap, kMt_ap, kPut4_ap, kPut3_ap, kPut2_ap, kPut_ap, kExt2_ap, kExt_ap, kAsg2_ap, kAsg_ap, kFor_ap, kLc_ap, kSl3_ap, kSl2_ap, kSl_ap, kGs_ap, ok_seq, sq_next, sq_ret, sq_brk, sq_cont, ok_nop, ok_brk, ok_cont, ok_drop, ok_ret, ok_retN, ok_set, ok_var0, ok_varS, ok_c, ok_nil, ok_cons, ok_tup, ok_lst, ok_val, ok_new, ok_bin, ok_un, ok_call, ok_callL, ok_test, tst_bl, ok_notT, ok_andT, ok_orT, ok_if, ok_ifS, ok_and, ok_or, ok_not, ok_mt, ok_put, ok_extend, pr2_mk, ok_par2, ok_asg, ok_for, ok_lc, ok_yes, ok_noPart, prt_int, ok_part, ok_sl, ok_gNm, ok_gTp, ok_gsN, ok_gsC, rg1_mk, rg2_mk, ok_rng1, ok_rng2, srcK_tup, srcK_ls, ok_src, finK_next, finK_ret, List.set_cons_zero, List.set_cons_succ, List.map_cons, List.map_nil, List.replicate, List.cons_append, List.nil_append, List.length_cons, List.length_nil, Bool.false_eq_true, eq_self, if_true, if_false, Nat.zero_add, okX_non, okX_bl, okX_int, okX_str, okX_tup, okX_ls, okX_loc, true_and, ok_isx, kIsx_mk, rk0_8, rk1_8, rk2_8, rk3_8, rk4_8, rk5_8, rk6_8, rk7_8, rk8_8, rk9_8, rk10_8, rk11_8, rkbf_8, rkbt_8]
  refine ⟨rfl, isL_loc (lst_get rfl), ?_⟩
  rw [append_loc (lst_get rfl) (by decide), bs_set]
  simp only [ok_ok, kDrop_ap, kRet_ap, kSet_ap, kCons2_ap, kCons_ap, kTup_ap, kLst_ap, kVal_ap, kNew_ap, kBin2_ap, kBin_ap, kUn_ap, kCall_ap, kCallL_ap, kNotT_ap, kAndT_ap, kOrT_ap, kIf_ap, kIfS_ap, kAnd_ap, kOr_ap, kNot_ap, kMt2_ap, kMt_ap, kPut4_ap, kPut3_ap, kPut2_ap, kPut_ap, kExt2_ap, kExt_ap, kAsg2_ap, kAsg_ap, kFor_ap, kLc_ap, kSl3_ap, kSl2_ap, kSl_ap, kGs_ap, ok_seq, sq_next, sq_ret, sq_brk, sq_cont, ok_nop, ok_brk, ok_cont, ok_drop, ok_ret, ok_retN, ok_set, ok_var0, ok_varS, ok_c, ok_nil, ok_cons, ok_tup, ok_lst, ok_val, ok_new, ok_bin, ok_un, ok_call, ok_callL, ok_test, tst_bl, ok_notT, ok_andT, ok_orT, ok_if, ok_ifS, ok_and, ok_or, ok_not, ok_mt, ok_put, ok_extend, pr2_mk, ok_par2, ok_asg, ok_for, ok_lc, ok_yes, ok_noPart, prt_int, ok_part, ok_sl, ok_gNm, ok_gTp, ok_gsN, ok_gsC, rg1_mk, rg2_mk, ok_rng1, ok_rng2, srcK_tup, srcK_ls, ok_src, finK_next, finK_ret, List.set_cons_zero, List.set_cons_succ, List.map_cons, List.map_nil, List.replicate, List.cons_append, List.nil_append, List.length_cons, List.length_nil, Bool.false_eq_true, eq_self, if_true, if_false, Nat.zero_add, okX_non, okX_bl, okX_int, okX_str, okX_tup, okX_ls, okX_loc, true_and, ok_isx, kIsx_mk, ok_catL, kCat_ap, rk0_8, rk1_8, rk2_8, rk3_8, rk4_8, rk5_8, rk6_8, rk7_8, rk8_8, rk9_8, rk10_8, rk11_8, rkbf_8, rkbt_8]
  refine ⟨rfl, ?_⟩
  rw [kCatX_loc (lst_get rfl)]
  refine ⟨rfl, ?_⟩
  simp only [ok_ok, kDrop_ap, kRet_ap, kSet_ap, kCons2_ap, kCons_ap, kTup_ap, kLst_ap, kVal_ap, kNew_ap, kBin2_ap, kBin_ap, kUn_ap, kCall_ap, kCallL_ap, kNotT_ap, kAndT_ap, kOrT_ap, kIf_ap, kIfS_ap, kAnd_ap, kOr_ap, kNot_ap, kMt2_ap, kMt_ap, kPut4_ap, kPut3_ap, kPut2_ap, kPut_ap, kExt2_ap, kExt_ap, kAsg2_ap, kAsg_ap, kFor_ap, kLc_ap, kSl3_ap, kSl2_ap, kSl_ap, kGs_ap, ok_seq, sq_next, sq_ret, sq_brk, sq_cont, ok_nop, ok_brk, ok_cont, ok_drop, ok_ret, ok_retN, ok_set, ok_var0, ok_varS, ok_c, ok_nil, ok_cons, ok_tup, ok_lst, ok_val, ok_new, ok_bin, ok_un, ok_call, ok_callL, ok_test, tst_bl, ok_notT, ok_andT, ok_orT, ok_if, ok_ifS, ok_and, ok_or, ok_not, ok_mt, ok_put, ok_extend, pr2_mk, ok_par2, ok_asg, ok_for, ok_lc, ok_yes, ok_noPart, prt_int, ok_part, ok_sl, ok_gNm, ok_gTp, ok_gsN, ok_gsC, rg1_mk, rg2_mk, ok_rng1, ok_rng2, srcK_tup, srcK_ls, ok_src, finK_next, finK_ret, List.set_cons_zero, List.set_cons_succ, List.map_cons, List.map_nil, List.replicate, List.cons_append, List.nil_append, List.length_cons, List.length_nil, Bool.false_eq_true, eq_self, if_true, if_false, Nat.zero_add, okX_non, okX_bl, okX_int, okX_str, okX_tup, okX_ls, okX_loc, true_and, ok_isx, kIsx_mk, ok_catL, kCat_ap, rk0_8, rk1_8, rk2_8, rk3_8, rk4_8, rk5_8, rk6_8, rk7_8, rk8_8, rk9_8, rk10_8, rk11_8, rkbf_8, rkbt_8]
  refine ⟨rfl, ?_⟩
  rw [kCatX_loc (lst_get rfl)]
  refine ⟨rfl, ?_⟩
  simp only [ok_ok, kDrop_ap, kRet_ap, kSet_ap, kCons2_ap, kCons_ap, kTup_ap, kLst_ap, kVal_ap, kNew_ap, kBin2_ap, kBin_ap, kUn_ap, kCall_ap, kCallL_ap, kNotT_ap, kAndT_ap, kOrT_ap, kIf_ap, kIfS_ap, kAnd_ap, kOr_ap, kNot_ap, kMt2_ap, kMt_ap, kPut4_ap, kPut3_ap, kPut2_ap, kPut_ap, kExt2_ap, kExt_ap, kAsg2_ap, kAsg_ap, kFor_ap, kLc_ap, kSl3_ap, kSl2_ap, kSl_ap, kGs_ap, ok_seq, sq_next, sq_ret, sq_brk, sq_cont, ok_nop, ok_brk, ok_cont, ok_drop, ok_ret, ok_retN, ok_set, ok_var0, ok_varS, ok_c, ok_nil, ok_cons, ok_tup, ok_lst, ok_val, ok_new, ok_bin, ok_un, ok_call, ok_callL, ok_test, tst_bl, ok_notT, ok_andT, ok_orT, ok_if, ok_ifS, ok_and, ok_or, ok_not, ok_mt, ok_put, ok_extend, pr2_mk, ok_par2, ok_asg, ok_for, ok_lc, ok_yes, ok_noPart, prt_int, ok_part, ok_sl, ok_gNm, ok_gTp, ok_gsN, ok_gsC, rg1_mk, rg2_mk, ok_rng1, ok_rng2, srcK_tup, srcK_ls, ok_src, finK_next, finK_ret, List.set_cons_zero, List.set_cons_succ, List.map_cons, List.map_nil, List.replicate, List.cons_append, List.nil_append, List.length_cons, List.length_nil, Bool.false_eq_true, eq_self, if_true, if_false, Nat.zero_add, okX_non, okX_bl, okX_int, okX_str, okX_tup, okX_ls, okX_loc, true_and, ok_isx, kIsx_mk, ok_catL, kCat_ap, rk0_8, rk1_8, rk2_8, rk3_8, rk4_8, rk5_8, rk6_8, rk7_8, rk8_8, rk9_8, rk10_8, rk11_8, rkbf_8, rkbt_8]
  refine ⟨rfl, ?_⟩
  rw [kCatX_loc (lst_get rfl)]
  refine ⟨rfl, ?_⟩
  simp only [ok_ok, kDrop_ap, kRet_ap, kSet_ap, kCons2_ap, kCons_ap, kTup_ap, kLst_ap, kVal_ap, kNew_ap, kBin2_ap, kBin_ap, kUn_ap, kCall_ap, kCallL_ap, kNotT_ap, kAndT_ap, kOrT_ap, kIf_ap, kIfS_ap, kAnd_ap, kOr_ap, kNot_ap, kMt2_ap, kMt_ap, kPut4_ap, kPut3_ap, kPut2_ap, kPut_ap, kExt2_ap, kExt_ap, kAsg2_ap, kAsg_ap, kFor_ap, kLc_ap, kSl3_ap, kSl2_ap, kSl_ap, kGs_ap, ok_seq, sq_next, sq_ret, sq_brk, sq_cont, ok_nop, ok_brk, ok_cont, ok_drop, ok_ret, ok_retN, ok_set, ok_var0, ok_varS, ok_c, ok_nil, ok_cons, ok_tup, ok_lst, ok_val, ok_new, ok_bin, ok_un, ok_call, ok_callL, ok_test, tst_bl, ok_notT, ok_andT, ok_orT, ok_if, ok_ifS, ok_and, ok_or, ok_not, ok_mt, ok_put, ok_extend, pr2_mk, ok_par2, ok_asg, ok_for, ok_lc, ok_yes, ok_noPart, prt_int, ok_part, ok_sl, ok_gNm, ok_gTp, ok_gsN, ok_gsC, rg1_mk, rg2_mk, ok_rng1, ok_rng2, srcK_tup, srcK_ls, ok_src, finK_next, finK_ret, List.set_cons_zero, List.set_cons_succ, List.map_cons, List.map_nil, List.replicate, List.cons_append, List.nil_append, List.length_cons, List.length_nil, Bool.false_eq_true, eq_self, if_true, if_false, Nat.zero_add, okX_non, okX_bl, okX_int, okX_str, okX_tup, okX_ls, okX_loc, true_and]
  rw [List.append_assoc, List.append_assoc]
  exact fin_base hf (by decide) hT
end Z

namespace Z
open PySem PySem.Spec L2
def bSuiteH (φf : PhiH) (a dd : Addr) (cn : Nat) : Fn Ct :=
  fSeq (fSet 3 (fCall (φf a dd cn) (fCons (fVar 2) (fNil))))
  (fSeq (fSet 4 (fAnd (fBin gEqF (fMt isL gCountL (fVar 3) (fCons (fC (.bl true)) (fNil))) (fC (.int 2))) (fBin gEqF (fBin gIxS (fVar 3) (fC (.int 0))) (fBin gIn (fC (.bl true)) (fSl (fVar 3) (fPart (fC (.int 2))) (fPart (fC (.int 7))))))))
  (fIfS (fAndT (fTest (fVar 4)) (fTest (fIsx a dd cn (.own 0) (fVar 2)))) (fSet 1 (fTup (fCons (fC (.str (Str.ofString "paper"))) (fCons (fFldX a dd cn (Str.ofString "word") (fVar 2)) (fCons (fFldX a dd cn (Str.ofString "at") (fVar 2)) (fNil)))))) (fIfS (fAndT (fTest (fVar 4)) (fTest (fIsxT a dd cn [(.own 1), (.own 8)] (fVar 2)))) (fSet 1 (fTup (fCons (fIf (fTest (fBin gIxS (fVar 3) (fC (.int 3)))) (fC (.str (Str.ofString "end"))) (fC (.str (Str.ofString "part")))) (fCons (fFldX a dd cn (Str.ofString "number") (fVar 2)) (fNil))))) (fIfS (fAndT (fTest (fVar 4)) (fTest (fIsx a dd cn (.own 5) (fVar 2)))) (fSet 1 (fTup (fCons (fC (.str (Str.ofString "name"))) (fCons (fFldX a dd cn (Str.ofString "name") (fVar 2)) (fNil))))) (fIfS (fAndT (fTest (fVar 4)) (fTest (fIsx a dd cn (.own 6) (fVar 2)))) (fSet 1 (fTup (fCons (fC (.str (Str.ofString "pile"))) (fCons (fFldX a dd cn (Str.ofString "pile") (fVar 2)) (fNil))))) (fNop))))))
/-- what a refusal is heard as -/
inductive HeardX : Nat → List Dv → Dv → Prop
  | x0 (x y : Dv) : HeardX 0 [x, y] (.tup [.str (Str.ofString "paper"), x, y])
  | x1 (x : Dv) : HeardX 1 [x] (.tup [.str (Str.ofString "end"), x])
  | x8 (x : Dv) : HeardX 8 [x] (.tup [.str (Str.ofString "part"), x])
  | x5 (x : Dv) : HeardX 5 [x] (.tup [.str (Str.ofString "name"), x])
  | x6 (x : Dv) : HeardX 6 [x] (.tup [.str (Str.ofString "pile"), x])
def SuiteS (gs : Addr → Addr → Nat → Fn Ct) : Prop := ∀ (cn : Nat) (fs : List Dv) (w : Dv), HeardX cn fs w → ∀ (a dd : Addr) (s : Sto), Fl s → OkE nX (gs a dd cn [none, some oddT, some (.xn a dd cn fs), none, none] s) fun ct s2 => s2 = s ∧ ∃ v2 v3 v4, ct = .next [none, some w, v2, v3, v4]
theorem rkT1 {cn : Nat} {x y : Bool} (h1 : (Tn.own 1).is cn = x) (h2 : (Tn.own 8).is cn = y) : (([(.own 1), (.own 8)] : List Tn).any fun t => t.is cn) = (x || (y || false)) := by subst h1; subst h2; rfl
theorem suite_0 {φf : PhiH} (h : FlagsAt φf 0 [true, false, true, false, false, false, false, false, false, false, false, false]) (x y : Dv) (a dd : Addr) (s : Sto) (hf : Fl s) : OkE nX (bSuiteH φf a dd 0 [none, some oddT, some (.xn a dd 0 [x, y]), none, none] s) fun ct s2 => s2 = s ∧ ∃ v2 v3 v4, ct = .next [none, some (.tup [.str (Str.ofString "paper"), x, y]), v2, v3, v4] := by
  have c1 : ∀ s : Sto, gCountL (.ls [.bl true, .bl false, .bl true, .bl false, .bl false, .bl false, .bl false, .bl false, .bl false, .bl false, .bl false, .bl false]) [.bl true] s = .ok (.int 2) s := fun _ => rfl
  have c2 : ∀ s : Sto, gIxS (.ls [.bl true, .bl false, .bl true, .bl false, .bl false, .bl false, .bl false, .bl false, .bl false, .bl false, .bl false, .bl false]) (.int 0) s = .ok (.bl true) s := fun _ => rfl
  have c3 : ∀ s : Sto, gSl (.ls [.bl true, .bl false, .bl true, .bl false, .bl false, .bl false, .bl false, .bl false, .bl false, .bl false, .bl false, .bl false]) (some 2) (some 7) s = .ok (.ls [.bl true, .bl false, .bl false, .bl false, .bl false]) s := fun _ => rfl
  have c4 : ∀ s : Sto, gIn (.bl true) (.ls [.bl true, .bl false, .bl false, .bl false, .bl false]) s = .ok (.bl true) s := fun _ => rfl
  have c5 : ∀ s : Sto, gIxS (.ls [.bl true, .bl false, .bl true, .bl false, .bl false, .bl false, .bl false, .bl false, .bl false, .bl false, .bl false, .bl false]) (.int 3) s = .ok (.bl false) s := fun _ => rfl
  have q1 : ∀ s : Sto, gEqF (.int 2) (.int 2) s = .ok (.bl true) s := fun _ => rfl
  have q2 : ∀ (b : Bool) (s : Sto), gEqF (.bl b) (.bl b) s = .ok (.bl true) s := fun b _ => by cases b <;> rfl
  have qL : ∀ (ds : List Dv) (s : Sto), isL (.ls ds) s = true := fun _ _ => rfl
  unfold bSuiteH
  simp only [ok_ok, kDrop_ap, kRet_ap, kSet_ap, kCons2_ap, kCons_ap, kTup_ap, kLst_ap, kVal_ap, kNew_ap, kBin2_ap, kBin_ap, kUn_ap, kCall_ap, kCallL_ap, kNotT_ap, kAndT_ap, kOrT_ap, kIf_ap, kIfS_ap, kAnd_ap, kOr_ap, kNot_ap, kMt2_ap, kMt_ap, kPut4_ap, kPut3_ap, kPut2_ap, kPut_ap, kExt2_ap, kExt_ap, kAsg2_ap, kAsg_ap, kFor_ap, kLc_ap, kSl3_ap, kSl2_ap, kSl_ap, kGs_ap, ok_seq, sq_next, sq_ret, sq_brk, sq_cont, ok_nop, ok_brk, ok_cont, ok_drop, ok_ret, ok_retN, ok_set, ok_var0, ok_varS, ok_c, ok_nil, ok_cons, ok_tup, ok_lst, ok_val, ok_new, ok_bin, ok_un, ok_call, ok_callL, ok_test, tst_bl, ok_notT, ok_andT, ok_orT, ok_if, ok_ifS, ok_and, ok_or, ok_not, ok_mt, ok_put, ok_extend, pr2_mk, ok_par2, ok_asg, ok_for, ok_lc, ok_yes, ok_noPart, prt_int, ok_part, ok_sl, ok_gNm, ok_gTp, ok_gsN, ok_gsC, rg1_mk, rg2_mk, ok_rng1, ok_rng2, srcK_tup, srcK_ls, ok_src, finK_next, finK_ret, List.set_cons_zero, List.set_cons_succ, List.map_cons, List.map_nil, List.replicate, List.cons_append, List.nil_append, List.length_cons, List.length_nil, Bool.false_eq_true, eq_self, if_true, if_false, Nat.zero_add, okX_non, okX_bl, okX_int, okX_str, okX_tup, okX_ls, okX_loc, true_and]
  refine h a dd [x, y] s _ hf ?_
  simp only [ok_ok, kDrop_ap, kRet_ap, kSet_ap, kCons2_ap, kCons_ap, kTup_ap, kLst_ap, kVal_ap, kNew_ap, kBin2_ap, kBin_ap, kUn_ap, kCall_ap, kCallL_ap, kNotT_ap, kAndT_ap, kOrT_ap, kIf_ap, kIfS_ap, kAnd_ap, kOr_ap, kNot_ap, kMt2_ap, kMt_ap, kPut4_ap, kPut3_ap, kPut2_ap, kPut_ap, kExt2_ap, kExt_ap, kAsg2_ap, kAsg_ap, kFor_ap, kLc_ap, kSl3_ap, kSl2_ap, kSl_ap, kGs_ap, ok_seq, sq_next, sq_ret, sq_brk, sq_cont, ok_nop, ok_brk, ok_cont, ok_drop, ok_ret, ok_retN, ok_set, ok_var0, ok_varS, ok_c, ok_nil, ok_cons, ok_tup, ok_lst, ok_val, ok_new, ok_bin, ok_un, ok_call, ok_callL, ok_test, tst_bl, ok_notT, ok_andT, ok_orT, ok_if, ok_ifS, ok_and, ok_or, ok_not, ok_mt, ok_put, ok_extend, pr2_mk, ok_par2, ok_asg, ok_for, ok_lc, ok_yes, ok_noPart, prt_int, ok_part, ok_sl, ok_gNm, ok_gTp, ok_gsN, ok_gsC, rg1_mk, rg2_mk, ok_rng1, ok_rng2, srcK_tup, srcK_ls, ok_src, finK_next, finK_ret, List.set_cons_zero, List.set_cons_succ, List.map_cons, List.map_nil, List.replicate, List.cons_append, List.nil_append, List.length_cons, List.length_nil, Bool.false_eq_true, eq_self, if_true, if_false, Nat.zero_add, okX_non, okX_bl, okX_int, okX_str, okX_tup, okX_ls, okX_loc, true_and, c1, c2, c3, c4, c5, q1, q2, qL, ok_isx, ok_isxT, kIsx_mk, ok_fldX, rkT1 rk1_0 rk8_0, Bool.or_false, Bool.or_true, Bool.true_or, Bool.false_or, rk0_0, rk1_0, rk2_0, rk3_0, rk4_0, rk5_0, rk6_0, rk7_0, rk8_0, rk9_0, rk10_0, rk11_0]
  rw [kFldX_mk (f := Str.ofString "word") (j := 0) (cn := 0) (fs := [x, y]) (x := x) (by decide +kernel) rfl]
  simp only [ok_ok, kDrop_ap, kRet_ap, kSet_ap, kCons2_ap, kCons_ap, kTup_ap, kLst_ap, kVal_ap, kNew_ap, kBin2_ap, kBin_ap, kUn_ap, kCall_ap, kCallL_ap, kNotT_ap, kAndT_ap, kOrT_ap, kIf_ap, kIfS_ap, kAnd_ap, kOr_ap, kNot_ap, kMt2_ap, kMt_ap, kPut4_ap, kPut3_ap, kPut2_ap, kPut_ap, kExt2_ap, kExt_ap, kAsg2_ap, kAsg_ap, kFor_ap, kLc_ap, kSl3_ap, kSl2_ap, kSl_ap, kGs_ap, ok_seq, sq_next, sq_ret, sq_brk, sq_cont, ok_nop, ok_brk, ok_cont, ok_drop, ok_ret, ok_retN, ok_set, ok_var0, ok_varS, ok_c, ok_nil, ok_cons, ok_tup, ok_lst, ok_val, ok_new, ok_bin, ok_un, ok_call, ok_callL, ok_test, tst_bl, ok_notT, ok_andT, ok_orT, ok_if, ok_ifS, ok_and, ok_or, ok_not, ok_mt, ok_put, ok_extend, pr2_mk, ok_par2, ok_asg, ok_for, ok_lc, ok_yes, ok_noPart, prt_int, ok_part, ok_sl, ok_gNm, ok_gTp, ok_gsN, ok_gsC, rg1_mk, rg2_mk, ok_rng1, ok_rng2, srcK_tup, srcK_ls, ok_src, finK_next, finK_ret, List.set_cons_zero, List.set_cons_succ, List.map_cons, List.map_nil, List.replicate, List.cons_append, List.nil_append, List.length_cons, List.length_nil, Bool.false_eq_true, eq_self, if_true, if_false, Nat.zero_add, okX_non, okX_bl, okX_int, okX_str, okX_tup, okX_ls, okX_loc, true_and, ok_fldX]
  rw [kFldX_mk (f := Str.ofString "at") (j := 1) (cn := 0) (fs := [x, y]) (x := y) (by decide +kernel) rfl]
  simp only [ok_ok, kDrop_ap, kRet_ap, kSet_ap, kCons2_ap, kCons_ap, kTup_ap, kLst_ap, kVal_ap, kNew_ap, kBin2_ap, kBin_ap, kUn_ap, kCall_ap, kCallL_ap, kNotT_ap, kAndT_ap, kOrT_ap, kIf_ap, kIfS_ap, kAnd_ap, kOr_ap, kNot_ap, kMt2_ap, kMt_ap, kPut4_ap, kPut3_ap, kPut2_ap, kPut_ap, kExt2_ap, kExt_ap, kAsg2_ap, kAsg_ap, kFor_ap, kLc_ap, kSl3_ap, kSl2_ap, kSl_ap, kGs_ap, ok_seq, sq_next, sq_ret, sq_brk, sq_cont, ok_nop, ok_brk, ok_cont, ok_drop, ok_ret, ok_retN, ok_set, ok_var0, ok_varS, ok_c, ok_nil, ok_cons, ok_tup, ok_lst, ok_val, ok_new, ok_bin, ok_un, ok_call, ok_callL, ok_test, tst_bl, ok_notT, ok_andT, ok_orT, ok_if, ok_ifS, ok_and, ok_or, ok_not, ok_mt, ok_put, ok_extend, pr2_mk, ok_par2, ok_asg, ok_for, ok_lc, ok_yes, ok_noPart, prt_int, ok_part, ok_sl, ok_gNm, ok_gTp, ok_gsN, ok_gsC, rg1_mk, rg2_mk, ok_rng1, ok_rng2, srcK_tup, srcK_ls, ok_src, finK_next, finK_ret, List.set_cons_zero, List.set_cons_succ, List.map_cons, List.map_nil, List.replicate, List.cons_append, List.nil_append, List.length_cons, List.length_nil, Bool.false_eq_true, eq_self, if_true, if_false, Nat.zero_add, okX_non, okX_bl, okX_int, okX_str, okX_tup, okX_ls, okX_loc, true_and]
  first | exact ⟨rfl, rfl, _, _, _, rfl⟩ | exact ⟨rfl, _, _, _, rfl⟩ | exact ⟨by decide, rfl, _, _, _, rfl⟩ | exact ⟨_, _, _, rfl⟩
theorem suite_1 {φf : PhiH} (h : FlagsAt φf 1 [true, false, false, true, false, false, false, false, false, false, false, false]) (x : Dv) (a dd : Addr) (s : Sto) (hf : Fl s) : OkE nX (bSuiteH φf a dd 1 [none, some oddT, some (.xn a dd 1 [x]), none, none] s) fun ct s2 => s2 = s ∧ ∃ v2 v3 v4, ct = .next [none, some (.tup [.str (Str.ofString "end"), x]), v2, v3, v4] := by
  have c1 : ∀ s : Sto, gCountL (.ls [.bl true, .bl false, .bl false, .bl true, .bl false, .bl false, .bl false, .bl false, .bl false, .bl false, .bl false, .bl false]) [.bl true] s = .ok (.int 2) s := fun _ => rfl
  have c2 : ∀ s : Sto, gIxS (.ls [.bl true, .bl false, .bl false, .bl true, .bl false, .bl false, .bl false, .bl false, .bl false, .bl false, .bl false, .bl false]) (.int 0) s = .ok (.bl true) s := fun _ => rfl
  have c3 : ∀ s : Sto, gSl (.ls [.bl true, .bl false, .bl false, .bl true, .bl false, .bl false, .bl false, .bl false, .bl false, .bl false, .bl false, .bl false]) (some 2) (some 7) s = .ok (.ls [.bl false, .bl true, .bl false, .bl false, .bl false]) s := fun _ => rfl
  have c4 : ∀ s : Sto, gIn (.bl true) (.ls [.bl false, .bl true, .bl false, .bl false, .bl false]) s = .ok (.bl true) s := fun _ => rfl
  have c5 : ∀ s : Sto, gIxS (.ls [.bl true, .bl false, .bl false, .bl true, .bl false, .bl false, .bl false, .bl false, .bl false, .bl false, .bl false, .bl false]) (.int 3) s = .ok (.bl true) s := fun _ => rfl
  have q1 : ∀ s : Sto, gEqF (.int 2) (.int 2) s = .ok (.bl true) s := fun _ => rfl
  have q2 : ∀ (b : Bool) (s : Sto), gEqF (.bl b) (.bl b) s = .ok (.bl true) s := fun b _ => by cases b <;> rfl
  have qL : ∀ (ds : List Dv) (s : Sto), isL (.ls ds) s = true := fun _ _ => rfl
  unfold bSuiteH
  simp only [ok_ok, kDrop_ap, kRet_ap, kSet_ap, kCons2_ap, kCons_ap, kTup_ap, kLst_ap, kVal_ap, kNew_ap, kBin2_ap, kBin_ap, kUn_ap, kCall_ap, kCallL_ap, kNotT_ap, kAndT_ap, kOrT_ap, kIf_ap, kIfS_ap, kAnd_ap, kOr_ap, kNot_ap, kMt2_ap, kMt_ap, kPut4_ap, kPut3_ap, kPut2_ap, kPut_ap, kExt2_ap, kExt_ap, kAsg2_ap, kAsg_ap, kFor_ap, kLc_ap, kSl3_ap, kSl2_ap, kSl_ap, kGs_ap, ok_seq, sq_next, sq_ret, sq_brk, sq_cont, ok_nop, ok_brk, ok_cont, ok_drop, ok_ret, ok_retN, ok_set, ok_var0, ok_varS, ok_c, ok_nil, ok_cons, ok_tup, ok_lst, ok_val, ok_new, ok_bin, ok_un, ok_call, ok_callL, ok_test, tst_bl, ok_notT, ok_andT, ok_orT, ok_if, ok_ifS, ok_and, ok_or, ok_not, ok_mt, ok_put, ok_extend, pr2_mk, ok_par2, ok_asg, ok_for, ok_lc, ok_yes, ok_noPart, prt_int, ok_part, ok_sl, ok_gNm, ok_gTp, ok_gsN, ok_gsC, rg1_mk, rg2_mk, ok_rng1, ok_rng2, srcK_tup, srcK_ls, ok_src, finK_next, finK_ret, List.set_cons_zero, List.set_cons_succ, List.map_cons, List.map_nil, List.replicate, List.cons_append, List.nil_append, List.length_cons, List.length_nil, Bool.false_eq_true, eq_self, if_true, if_false, Nat.zero_add, okX_non, okX_bl, okX_int, okX_str, okX_tup, okX_ls, okX_loc, true_and]
  refine h a dd [x] s _ hf ?_
  simp only [ok_ok, kDrop_ap, kRet_ap, kSet_ap, kCons2_ap, kCons_ap, kTup_ap, kLst_ap, kVal_ap, kNew_ap, kBin2_ap, kBin_ap, kUn_ap, kCall_ap, kCallL_ap, kNotT_ap, kAndT_ap, kOrT_ap, kIf_ap, kIfS_ap, kAnd_ap, kOr_ap, kNot_ap, kMt2_ap, kMt_ap, kPut4_ap, kPut3_ap, kPut2_ap, kPut_ap, kExt2_ap, kExt_ap, kAsg2_ap, kAsg_ap, kFor_ap, kLc_ap, kSl3_ap, kSl2_ap, kSl_ap, kGs_ap, ok_seq, sq_next, sq_ret, sq_brk, sq_cont, ok_nop, ok_brk, ok_cont, ok_drop, ok_ret, ok_retN, ok_set, ok_var0, ok_varS, ok_c, ok_nil, ok_cons, ok_tup, ok_lst, ok_val, ok_new, ok_bin, ok_un, ok_call, ok_callL, ok_test, tst_bl, ok_notT, ok_andT, ok_orT, ok_if, ok_ifS, ok_and, ok_or, ok_not, ok_mt, ok_put, ok_extend, pr2_mk, ok_par2, ok_asg, ok_for, ok_lc, ok_yes, ok_noPart, prt_int, ok_part, ok_sl, ok_gNm, ok_gTp, ok_gsN, ok_gsC, rg1_mk, rg2_mk, ok_rng1, ok_rng2, srcK_tup, srcK_ls, ok_src, finK_next, finK_ret, List.set_cons_zero, List.set_cons_succ, List.map_cons, List.map_nil, List.replicate, List.cons_append, List.nil_append, List.length_cons, List.length_nil, Bool.false_eq_true, eq_self, if_true, if_false, Nat.zero_add, okX_non, okX_bl, okX_int, okX_str, okX_tup, okX_ls, okX_loc, true_and, c1, c2, c3, c4, c5, q1, q2, qL, ok_isx, ok_isxT, kIsx_mk, ok_fldX, rkT1 rk1_1 rk8_1, Bool.or_false, Bool.or_true, Bool.true_or, Bool.false_or, rk0_1, rk1_1, rk2_1, rk3_1, rk4_1, rk5_1, rk6_1, rk7_1, rk8_1, rk9_1, rk10_1, rk11_1]
  rw [kFldX_mk (f := Str.ofString "number") (j := 0) (cn := 1) (fs := [x]) (x := x) (by decide +kernel) rfl]
  simp only [ok_ok, kDrop_ap, kRet_ap, kSet_ap, kCons2_ap, kCons_ap, kTup_ap, kLst_ap, kVal_ap, kNew_ap, kBin2_ap, kBin_ap, kUn_ap, kCall_ap, kCallL_ap, kNotT_ap, kAndT_ap, kOrT_ap, kIf_ap, kIfS_ap, kAnd_ap, kOr_ap, kNot_ap, kMt2_ap, kMt_ap, kPut4_ap, kPut3_ap, kPut2_ap, kPut_ap, kExt2_ap, kExt_ap, kAsg2_ap, kAsg_ap, kFor_ap, kLc_ap, kSl3_ap, kSl2_ap, kSl_ap, kGs_ap, ok_seq, sq_next, sq_ret, sq_brk, sq_cont, ok_nop, ok_brk, ok_cont, ok_drop, ok_ret, ok_retN, ok_set, ok_var0, ok_varS, ok_c, ok_nil, ok_cons, ok_tup, ok_lst, ok_val, ok_new, ok_bin, ok_un, ok_call, ok_callL, ok_test, tst_bl, ok_notT, ok_andT, ok_orT, ok_if, ok_ifS, ok_and, ok_or, ok_not, ok_mt, ok_put, ok_extend, pr2_mk, ok_par2, ok_asg, ok_for, ok_lc, ok_yes, ok_noPart, prt_int, ok_part, ok_sl, ok_gNm, ok_gTp, ok_gsN, ok_gsC, rg1_mk, rg2_mk, ok_rng1, ok_rng2, srcK_tup, srcK_ls, ok_src, finK_next, finK_ret, List.set_cons_zero, List.set_cons_succ, List.map_cons, List.map_nil, List.replicate, List.cons_append, List.nil_append, List.length_cons, List.length_nil, Bool.false_eq_true, eq_self, if_true, if_false, Nat.zero_add, okX_non, okX_bl, okX_int, okX_str, okX_tup, okX_ls, okX_loc, true_and]
  first | exact ⟨rfl, rfl, _, _, _, rfl⟩ | exact ⟨rfl, _, _, _, rfl⟩ | exact ⟨by decide, rfl, _, _, _, rfl⟩ | exact ⟨_, _, _, rfl⟩
theorem suite_8 {φf : PhiH} (h : FlagsAt φf 8 [false, true, false, false, false, false, false, false, false, false, true, false]) (x : Dv) (a dd : Addr) (s : Sto) (hf : Fl s) : OkE nX (bSuiteH φf a dd 8 [none, some oddT, some (.xn a dd 8 [x]), none, none] s) fun ct s2 => s2 = s ∧ ∃ v2 v3 v4, ct = .next [none, some (.tup [.str (Str.ofString "part"), x]), v2, v3, v4] := by
  have c1 : ∀ s : Sto, gCountL (.ls [.bl false, .bl true, .bl false, .bl false, .bl false, .bl false, .bl false, .bl false, .bl false, .bl false, .bl true, .bl false]) [.bl true] s = .ok (.int 2) s := fun _ => rfl
  have c2 : ∀ s : Sto, gIxS (.ls [.bl false, .bl true, .bl false, .bl false, .bl false, .bl false, .bl false, .bl false, .bl false, .bl false, .bl true, .bl false]) (.int 0) s = .ok (.bl false) s := fun _ => rfl
  have c3 : ∀ s : Sto, gSl (.ls [.bl false, .bl true, .bl false, .bl false, .bl false, .bl false, .bl false, .bl false, .bl false, .bl false, .bl true, .bl false]) (some 2) (some 7) s = .ok (.ls [.bl false, .bl false, .bl false, .bl false, .bl false]) s := fun _ => rfl
  have c4 : ∀ s : Sto, gIn (.bl true) (.ls [.bl false, .bl false, .bl false, .bl false, .bl false]) s = .ok (.bl false) s := fun _ => rfl
  have c5 : ∀ s : Sto, gIxS (.ls [.bl false, .bl true, .bl false, .bl false, .bl false, .bl false, .bl false, .bl false, .bl false, .bl false, .bl true, .bl false]) (.int 3) s = .ok (.bl false) s := fun _ => rfl
  have q1 : ∀ s : Sto, gEqF (.int 2) (.int 2) s = .ok (.bl true) s := fun _ => rfl
  have q2 : ∀ (b : Bool) (s : Sto), gEqF (.bl b) (.bl b) s = .ok (.bl true) s := fun b _ => by cases b <;> rfl
  have qL : ∀ (ds : List Dv) (s : Sto), isL (.ls ds) s = true := fun _ _ => rfl
  unfold bSuiteH
  simp only [ok_ok, kDrop_ap, kRet_ap, kSet_ap, kCons2_ap, kCons_ap, kTup_ap, kLst_ap, kVal_ap, kNew_ap, kBin2_ap, kBin_ap, kUn_ap, kCall_ap, kCallL_ap, kNotT_ap, kAndT_ap, kOrT_ap, kIf_ap, kIfS_ap, kAnd_ap, kOr_ap, kNot_ap, kMt2_ap, kMt_ap, kPut4_ap, kPut3_ap, kPut2_ap, kPut_ap, kExt2_ap, kExt_ap, kAsg2_ap, kAsg_ap, kFor_ap, kLc_ap, kSl3_ap, kSl2_ap, kSl_ap, kGs_ap, ok_seq, sq_next, sq_ret, sq_brk, sq_cont, ok_nop, ok_brk, ok_cont, ok_drop, ok_ret, ok_retN, ok_set, ok_var0, ok_varS, ok_c, ok_nil, ok_cons, ok_tup, ok_lst, ok_val, ok_new, ok_bin, ok_un, ok_call, ok_callL, ok_test, tst_bl, ok_notT, ok_andT, ok_orT, ok_if, ok_ifS, ok_and, ok_or, ok_not, ok_mt, ok_put, ok_extend, pr2_mk, ok_par2, ok_asg, ok_for, ok_lc, ok_yes, ok_noPart, prt_int, ok_part, ok_sl, ok_gNm, ok_gTp, ok_gsN, ok_gsC, rg1_mk, rg2_mk, ok_rng1, ok_rng2, srcK_tup, srcK_ls, ok_src, finK_next, finK_ret, List.set_cons_zero, List.set_cons_succ, List.map_cons, List.map_nil, List.replicate, List.cons_append, List.nil_append, List.length_cons, List.length_nil, Bool.false_eq_true, eq_self, if_true, if_false, Nat.zero_add, okX_non, okX_bl, okX_int, okX_str, okX_tup, okX_ls, okX_loc, true_and]
  refine h a dd [x] s _ hf ?_
  simp only [ok_ok, kDrop_ap, kRet_ap, kSet_ap, kCons2_ap, kCons_ap, kTup_ap, kLst_ap, kVal_ap, kNew_ap, kBin2_ap, kBin_ap, kUn_ap, kCall_ap, kCallL_ap, kNotT_ap, kAndT_ap, kOrT_ap, kIf_ap, kIfS_ap, kAnd_ap, kOr_ap, kNot_ap, kMt2_ap, kMt_ap, kPut4_ap, kPut3_ap, kPut2_ap, kPut_ap, kExt2_ap, kExt_ap, kAsg2_ap, kAsg_ap, kFor_ap, kLc_ap, kSl3_ap, kSl2_ap, kSl_ap, kGs_ap, ok_seq, sq_next, sq_ret, sq_brk, sq_cont, ok_nop, ok_brk, ok_cont, ok_drop, ok_ret, ok_retN, ok_set, ok_var0, ok_varS, ok_c, ok_nil, ok_cons, ok_tup, ok_lst, ok_val, ok_new, ok_bin, ok_un, ok_call, ok_callL, ok_test, tst_bl, ok_notT, ok_andT, ok_orT, ok_if, ok_ifS, ok_and, ok_or, ok_not, ok_mt, ok_put, ok_extend, pr2_mk, ok_par2, ok_asg, ok_for, ok_lc, ok_yes, ok_noPart, prt_int, ok_part, ok_sl, ok_gNm, ok_gTp, ok_gsN, ok_gsC, rg1_mk, rg2_mk, ok_rng1, ok_rng2, srcK_tup, srcK_ls, ok_src, finK_next, finK_ret, List.set_cons_zero, List.set_cons_succ, List.map_cons, List.map_nil, List.replicate, List.cons_append, List.nil_append, List.length_cons, List.length_nil, Bool.false_eq_true, eq_self, if_true, if_false, Nat.zero_add, okX_non, okX_bl, okX_int, okX_str, okX_tup, okX_ls, okX_loc, true_and, c1, c2, c3, c4, c5, q1, q2, qL, ok_isx, ok_isxT, kIsx_mk, ok_fldX, rkT1 rk1_8 rk8_8, Bool.or_false, Bool.or_true, Bool.true_or, Bool.false_or, rk0_8, rk1_8, rk2_8, rk3_8, rk4_8, rk5_8, rk6_8, rk7_8, rk8_8, rk9_8, rk10_8, rk11_8]
  rw [kFldX_mk (f := Str.ofString "number") (j := 0) (cn := 8) (fs := [x]) (x := x) (by decide +kernel) rfl]
  simp only [ok_ok, kDrop_ap, kRet_ap, kSet_ap, kCons2_ap, kCons_ap, kTup_ap, kLst_ap, kVal_ap, kNew_ap, kBin2_ap, kBin_ap, kUn_ap, kCall_ap, kCallL_ap, kNotT_ap, kAndT_ap, kOrT_ap, kIf_ap, kIfS_ap, kAnd_ap, kOr_ap, kNot_ap, kMt2_ap, kMt_ap, kPut4_ap, kPut3_ap, kPut2_ap, kPut_ap, kExt2_ap, kExt_ap, kAsg2_ap, kAsg_ap, kFor_ap, kLc_ap, kSl3_ap, kSl2_ap, kSl_ap, kGs_ap, ok_seq, sq_next, sq_ret, sq_brk, sq_cont, ok_nop, ok_brk, ok_cont, ok_drop, ok_ret, ok_retN, ok_set, ok_var0, ok_varS, ok_c, ok_nil, ok_cons, ok_tup, ok_lst, ok_val, ok_new, ok_bin, ok_un, ok_call, ok_callL, ok_test, tst_bl, ok_notT, ok_andT, ok_orT, ok_if, ok_ifS, ok_and, ok_or, ok_not, ok_mt, ok_put, ok_extend, pr2_mk, ok_par2, ok_asg, ok_for, ok_lc, ok_yes, ok_noPart, prt_int, ok_part, ok_sl, ok_gNm, ok_gTp, ok_gsN, ok_gsC, rg1_mk, rg2_mk, ok_rng1, ok_rng2, srcK_tup, srcK_ls, ok_src, finK_next, finK_ret, List.set_cons_zero, List.set_cons_succ, List.map_cons, List.map_nil, List.replicate, List.cons_append, List.nil_append, List.length_cons, List.length_nil, Bool.false_eq_true, eq_self, if_true, if_false, Nat.zero_add, okX_non, okX_bl, okX_int, okX_str, okX_tup, okX_ls, okX_loc, true_and]
  first | exact ⟨rfl, rfl, _, _, _, rfl⟩ | exact ⟨rfl, _, _, _, rfl⟩ | exact ⟨by decide, rfl, _, _, _, rfl⟩ | exact ⟨_, _, _, rfl⟩
theorem suite_5 {φf : PhiH} (h : FlagsAt φf 5 [false, true, false, false, false, false, false, true, false, false, false, false]) (x : Dv) (a dd : Addr) (s : Sto) (hf : Fl s) : OkE nX (bSuiteH φf a dd 5 [none, some oddT, some (.xn a dd 5 [x]), none, none] s) fun ct s2 => s2 = s ∧ ∃ v2 v3 v4, ct = .next [none, some (.tup [.str (Str.ofString "name"), x]), v2, v3, v4] := by
  have c1 : ∀ s : Sto, gCountL (.ls [.bl false, .bl true, .bl false, .bl false, .bl false, .bl false, .bl false, .bl true, .bl false, .bl false, .bl false, .bl false]) [.bl true] s = .ok (.int 2) s := fun _ => rfl
  have c2 : ∀ s : Sto, gIxS (.ls [.bl false, .bl true, .bl false, .bl false, .bl false, .bl false, .bl false, .bl true, .bl false, .bl false, .bl false, .bl false]) (.int 0) s = .ok (.bl false) s := fun _ => rfl
  have c3 : ∀ s : Sto, gSl (.ls [.bl false, .bl true, .bl false, .bl false, .bl false, .bl false, .bl false, .bl true, .bl false, .bl false, .bl false, .bl false]) (some 2) (some 7) s = .ok (.ls [.bl false, .bl false, .bl false, .bl false, .bl false]) s := fun _ => rfl
  have c4 : ∀ s : Sto, gIn (.bl true) (.ls [.bl false, .bl false, .bl false, .bl false, .bl false]) s = .ok (.bl false) s := fun _ => rfl
  have c5 : ∀ s : Sto, gIxS (.ls [.bl false, .bl true, .bl false, .bl false, .bl false, .bl false, .bl false, .bl true, .bl false, .bl false, .bl false, .bl false]) (.int 3) s = .ok (.bl false) s := fun _ => rfl
  have q1 : ∀ s : Sto, gEqF (.int 2) (.int 2) s = .ok (.bl true) s := fun _ => rfl
  have q2 : ∀ (b : Bool) (s : Sto), gEqF (.bl b) (.bl b) s = .ok (.bl true) s := fun b _ => by cases b <;> rfl
  have qL : ∀ (ds : List Dv) (s : Sto), isL (.ls ds) s = true := fun _ _ => rfl
  unfold bSuiteH
  simp only [ok_ok, kDrop_ap, kRet_ap, kSet_ap, kCons2_ap, kCons_ap, kTup_ap, kLst_ap, kVal_ap, kNew_ap, kBin2_ap, kBin_ap, kUn_ap, kCall_ap, kCallL_ap, kNotT_ap, kAndT_ap, kOrT_ap, kIf_ap, kIfS_ap, kAnd_ap, kOr_ap, kNot_ap, kMt2_ap, kMt_ap, kPut4_ap, kPut3_ap, kPut2_ap, kPut_ap, kExt2_ap, kExt_ap, kAsg2_ap, kAsg_ap, kFor_ap, kLc_ap, kSl3_ap, kSl2_ap, kSl_ap, kGs_ap, ok_seq, sq_next, sq_ret, sq_brk, sq_cont, ok_nop, ok_brk, ok_cont, ok_drop, ok_ret, ok_retN, ok_set, ok_var0, ok_varS, ok_c, ok_nil, ok_cons, ok_tup, ok_lst, ok_val, ok_new, ok_bin, ok_un, ok_call, ok_callL, ok_test, tst_bl, ok_notT, ok_andT, ok_orT, ok_if, ok_ifS, ok_and, ok_or, ok_not, ok_mt, ok_put, ok_extend, pr2_mk, ok_par2, ok_asg, ok_for, ok_lc, ok_yes, ok_noPart, prt_int, ok_part, ok_sl, ok_gNm, ok_gTp, ok_gsN, ok_gsC, rg1_mk, rg2_mk, ok_rng1, ok_rng2, srcK_tup, srcK_ls, ok_src, finK_next, finK_ret, List.set_cons_zero, List.set_cons_succ, List.map_cons, List.map_nil, List.replicate, List.cons_append, List.nil_append, List.length_cons, List.length_nil, Bool.false_eq_true, eq_self, if_true, if_false, Nat.zero_add, okX_non, okX_bl, okX_int, okX_str, okX_tup, okX_ls, okX_loc, true_and]
  refine h a dd [x] s _ hf ?_
  simp only [ok_ok, kDrop_ap, kRet_ap, kSet_ap, kCons2_ap, kCons_ap, kTup_ap, kLst_ap, kVal_ap, kNew_ap, kBin2_ap, kBin_ap, kUn_ap, kCall_ap, kCallL_ap, kNotT_ap, kAndT_ap, kOrT_ap, kIf_ap, kIfS_ap, kAnd_ap, kOr_ap, kNot_ap, kMt2_ap, kMt_ap, kPut4_ap, kPut3_ap, kPut2_ap, kPut_ap, kExt2_ap, kExt_ap, kAsg2_ap, kAsg_ap, kFor_ap, kLc_ap, kSl3_ap, kSl2_ap, kSl_ap, kGs_ap, ok_seq, sq_next, sq_ret, sq_brk, sq_cont, ok_nop, ok_brk, ok_cont, ok_drop, ok_ret, ok_retN, ok_set, ok_var0, ok_varS, ok_c, ok_nil, ok_cons, ok_tup, ok_lst, ok_val, ok_new, ok_bin, ok_un, ok_call, ok_callL, ok_test, tst_bl, ok_notT, ok_andT, ok_orT, ok_if, ok_ifS, ok_and, ok_or, ok_not, ok_mt, ok_put, ok_extend, pr2_mk, ok_par2, ok_asg, ok_for, ok_lc, ok_yes, ok_noPart, prt_int, ok_part, ok_sl, ok_gNm, ok_gTp, ok_gsN, ok_gsC, rg1_mk, rg2_mk, ok_rng1, ok_rng2, srcK_tup, srcK_ls, ok_src, finK_next, finK_ret, List.set_cons_zero, List.set_cons_succ, List.map_cons, List.map_nil, List.replicate, List.cons_append, List.nil_append, List.length_cons, List.length_nil, Bool.false_eq_true, eq_self, if_true, if_false, Nat.zero_add, okX_non, okX_bl, okX_int, okX_str, okX_tup, okX_ls, okX_loc, true_and, c1, c2, c3, c4, c5, q1, q2, qL, ok_isx, ok_isxT, kIsx_mk, ok_fldX, rkT1 rk1_5 rk8_5, Bool.or_false, Bool.or_true, Bool.true_or, Bool.false_or, rk0_5, rk1_5, rk2_5, rk3_5, rk4_5, rk5_5, rk6_5, rk7_5, rk8_5, rk9_5, rk10_5, rk11_5]
  rw [kFldX_mk (f := Str.ofString "name") (j := 0) (cn := 5) (fs := [x]) (x := x) (by decide +kernel) rfl]
  simp only [ok_ok, kDrop_ap, kRet_ap, kSet_ap, kCons2_ap, kCons_ap, kTup_ap, kLst_ap, kVal_ap, kNew_ap, kBin2_ap, kBin_ap, kUn_ap, kCall_ap, kCallL_ap, kNotT_ap, kAndT_ap, kOrT_ap, kIf_ap, kIfS_ap, kAnd_ap, kOr_ap, kNot_ap, kMt2_ap, kMt_ap, kPut4_ap, kPut3_ap, kPut2_ap, kPut_ap, kExt2_ap, kExt_ap, kAsg2_ap, kAsg_ap, kFor_ap, kLc_ap, kSl3_ap, kSl2_ap, kSl_ap, kGs_ap, ok_seq, sq_next, sq_ret, sq_brk, sq_cont, ok_nop, ok_brk, ok_cont, ok_drop, ok_ret, ok_retN, ok_set, ok_var0, ok_varS, ok_c, ok_nil, ok_cons, ok_tup, ok_lst, ok_val, ok_new, ok_bin, ok_un, ok_call, ok_callL, ok_test, tst_bl, ok_notT, ok_andT, ok_orT, ok_if, ok_ifS, ok_and, ok_or, ok_not, ok_mt, ok_put, ok_extend, pr2_mk, ok_par2, ok_asg, ok_for, ok_lc, ok_yes, ok_noPart, prt_int, ok_part, ok_sl, ok_gNm, ok_gTp, ok_gsN, ok_gsC, rg1_mk, rg2_mk, ok_rng1, ok_rng2, srcK_tup, srcK_ls, ok_src, finK_next, finK_ret, List.set_cons_zero, List.set_cons_succ, List.map_cons, List.map_nil, List.replicate, List.cons_append, List.nil_append, List.length_cons, List.length_nil, Bool.false_eq_true, eq_self, if_true, if_false, Nat.zero_add, okX_non, okX_bl, okX_int, okX_str, okX_tup, okX_ls, okX_loc, true_and]
  first | exact ⟨rfl, rfl, _, _, _, rfl⟩ | exact ⟨rfl, _, _, _, rfl⟩ | exact ⟨by decide, rfl, _, _, _, rfl⟩ | exact ⟨_, _, _, rfl⟩
theorem suite_6 {φf : PhiH} (h : FlagsAt φf 6 [false, true, false, false, false, false, false, false, true, false, false, false]) (x : Dv) (a dd : Addr) (s : Sto) (hf : Fl s) : OkE nX (bSuiteH φf a dd 6 [none, some oddT, some (.xn a dd 6 [x]), none, none] s) fun ct s2 => s2 = s ∧ ∃ v2 v3 v4, ct = .next [none, some (.tup [.str (Str.ofString "pile"), x]), v2, v3, v4] := by
  have c1 : ∀ s : Sto, gCountL (.ls [.bl false, .bl true, .bl false, .bl false, .bl false, .bl false, .bl false, .bl false, .bl true, .bl false, .bl false, .bl false]) [.bl true] s = .ok (.int 2) s := fun _ => rfl
  have c2 : ∀ s : Sto, gIxS (.ls [.bl false, .bl true, .bl false, .bl false, .bl false, .bl false, .bl false, .bl false, .bl true, .bl false, .bl false, .bl false]) (.int 0) s = .ok (.bl false) s := fun _ => rfl
  have c3 : ∀ s : Sto, gSl (.ls [.bl false, .bl true, .bl false, .bl false, .bl false, .bl false, .bl false, .bl false, .bl true, .bl false, .bl false, .bl false]) (some 2) (some 7) s = .ok (.ls [.bl false, .bl false, .bl false, .bl false, .bl false]) s := fun _ => rfl
  have c4 : ∀ s : Sto, gIn (.bl true) (.ls [.bl false, .bl false, .bl false, .bl false, .bl false]) s = .ok (.bl false) s := fun _ => rfl
  have c5 : ∀ s : Sto, gIxS (.ls [.bl false, .bl true, .bl false, .bl false, .bl false, .bl false, .bl false, .bl false, .bl true, .bl false, .bl false, .bl false]) (.int 3) s = .ok (.bl false) s := fun _ => rfl
  have q1 : ∀ s : Sto, gEqF (.int 2) (.int 2) s = .ok (.bl true) s := fun _ => rfl
  have q2 : ∀ (b : Bool) (s : Sto), gEqF (.bl b) (.bl b) s = .ok (.bl true) s := fun b _ => by cases b <;> rfl
  have qL : ∀ (ds : List Dv) (s : Sto), isL (.ls ds) s = true := fun _ _ => rfl
  unfold bSuiteH
  simp only [ok_ok, kDrop_ap, kRet_ap, kSet_ap, kCons2_ap, kCons_ap, kTup_ap, kLst_ap, kVal_ap, kNew_ap, kBin2_ap, kBin_ap, kUn_ap, kCall_ap, kCallL_ap, kNotT_ap, kAndT_ap, kOrT_ap, kIf_ap, kIfS_ap, kAnd_ap, kOr_ap, kNot_ap, kMt2_ap, kMt_ap, kPut4_ap, kPut3_ap, kPut2_ap, kPut_ap, kExt2_ap, kExt_ap, kAsg2_ap, kAsg_ap, kFor_ap, kLc_ap, kSl3_ap, kSl2_ap, kSl_ap, kGs_ap, ok_seq, sq_next, sq_ret, sq_brk, sq_cont, ok_nop, ok_brk, ok_cont, ok_drop, ok_ret, ok_retN, ok_set, ok_var0, ok_varS, ok_c, ok_nil, ok_cons, ok_tup, ok_lst, ok_val, ok_new, ok_bin, ok_un, ok_call, ok_callL, ok_test, tst_bl, ok_notT, ok_andT, ok_orT, ok_if, ok_ifS, ok_and, ok_or, ok_not, ok_mt, ok_put, ok_extend, pr2_mk, ok_par2, ok_asg, ok_for, ok_lc, ok_yes, ok_noPart, prt_int, ok_part, ok_sl, ok_gNm, ok_gTp, ok_gsN, ok_gsC, rg1_mk, rg2_mk, ok_rng1, ok_rng2, srcK_tup, srcK_ls, ok_src, finK_next, finK_ret, List.set_cons_zero, List.set_cons_succ, List.map_cons, List.map_nil, List.replicate, List.cons_append, List.nil_append, List.length_cons, List.length_nil, Bool.false_eq_true, eq_self, if_true, if_false, Nat.zero_add, okX_non, okX_bl, okX_int, okX_str, okX_tup, okX_ls, okX_loc, true_and]
  refine h a dd [x] s _ hf ?_
  simp only [ok_ok, kDrop_ap, kRet_ap, kSet_ap, kCons2_ap, kCons_ap, kTup_ap, kLst_ap, kVal_ap, kNew_ap, kBin2_ap, kBin_ap, kUn_ap, kCall_ap, kCallL_ap, kNotT_ap, kAndT_ap, kOrT_ap, kIf_ap, kIfS_ap, kAnd_ap, kOr_ap, kNot_ap, kMt2_ap, kMt_ap, kPut4_ap, kPut3_ap, kPut2_ap, kPut_ap, kExt2_ap, kExt_ap, kAsg2_ap, kAsg_ap, kFor_ap, kLc_ap, kSl3_ap, kSl2_ap, kSl_ap, kGs_ap, ok_seq, sq_next, sq_ret, sq_brk, sq_cont, ok_nop, ok_brk, ok_cont, ok_drop, ok_ret, ok_retN, ok_set, ok_var0, ok_varS, ok_c, ok_nil, ok_cons, ok_tup, ok_lst, ok_val, ok_new, ok_bin, ok_un, ok_call, ok_callL, ok_test, tst_bl, ok_notT, ok_andT, ok_orT, ok_if, ok_ifS, ok_and, ok_or, ok_not, ok_mt, ok_put, ok_extend, pr2_mk, ok_par2, ok_asg, ok_for, ok_lc, ok_yes, ok_noPart, prt_int, ok_part, ok_sl, ok_gNm, ok_gTp, ok_gsN, ok_gsC, rg1_mk, rg2_mk, ok_rng1, ok_rng2, srcK_tup, srcK_ls, ok_src, finK_next, finK_ret, List.set_cons_zero, List.set_cons_succ, List.map_cons, List.map_nil, List.replicate, List.cons_append, List.nil_append, List.length_cons, List.length_nil, Bool.false_eq_true, eq_self, if_true, if_false, Nat.zero_add, okX_non, okX_bl, okX_int, okX_str, okX_tup, okX_ls, okX_loc, true_and, c1, c2, c3, c4, c5, q1, q2, qL, ok_isx, ok_isxT, kIsx_mk, ok_fldX, rkT1 rk1_6 rk8_6, Bool.or_false, Bool.or_true, Bool.true_or, Bool.false_or, rk0_6, rk1_6, rk2_6, rk3_6, rk4_6, rk5_6, rk6_6, rk7_6, rk8_6, rk9_6, rk10_6, rk11_6]
  rw [kFldX_mk (f := Str.ofString "pile") (j := 0) (cn := 6) (fs := [x]) (x := x) (by decide +kernel) rfl]
  simp only [ok_ok, kDrop_ap, kRet_ap, kSet_ap, kCons2_ap, kCons_ap, kTup_ap, kLst_ap, kVal_ap, kNew_ap, kBin2_ap, kBin_ap, kUn_ap, kCall_ap, kCallL_ap, kNotT_ap, kAndT_ap, kOrT_ap, kIf_ap, kIfS_ap, kAnd_ap, kOr_ap, kNot_ap, kMt2_ap, kMt_ap, kPut4_ap, kPut3_ap, kPut2_ap, kPut_ap, kExt2_ap, kExt_ap, kAsg2_ap, kAsg_ap, kFor_ap, kLc_ap, kSl3_ap, kSl2_ap, kSl_ap, kGs_ap, ok_seq, sq_next, sq_ret, sq_brk, sq_cont, ok_nop, ok_brk, ok_cont, ok_drop, ok_ret, ok_retN, ok_set, ok_var0, ok_varS, ok_c, ok_nil, ok_cons, ok_tup, ok_lst, ok_val, ok_new, ok_bin, ok_un, ok_call, ok_callL, ok_test, tst_bl, ok_notT, ok_andT, ok_orT, ok_if, ok_ifS, ok_and, ok_or, ok_not, ok_mt, ok_put, ok_extend, pr2_mk, ok_par2, ok_asg, ok_for, ok_lc, ok_yes, ok_noPart, prt_int, ok_part, ok_sl, ok_gNm, ok_gTp, ok_gsN, ok_gsC, rg1_mk, rg2_mk, ok_rng1, ok_rng2, srcK_tup, srcK_ls, ok_src, finK_next, finK_ret, List.set_cons_zero, List.set_cons_succ, List.map_cons, List.map_nil, List.replicate, List.cons_append, List.nil_append, List.length_cons, List.length_nil, Bool.false_eq_true, eq_self, if_true, if_false, Nat.zero_add, okX_non, okX_bl, okX_int, okX_str, okX_tup, okX_ls, okX_loc, true_and]
  first | exact ⟨rfl, rfl, _, _, _, rfl⟩ | exact ⟨rfl, _, _, _, rfl⟩ | exact ⟨by decide, rfl, _, _, _, rfl⟩ | exact ⟨_, _, _, rfl⟩
theorem suite_spec {φf : PhiH} (h0 : FlagsAt φf 0 [true, false, true, false, false, false, false, false, false, false, false, false]) (h1 : FlagsAt φf 1 [true, false, false, true, false, false, false, false, false, false, false, false]) (h8 : FlagsAt φf 8 [false, true, false, false, false, false, false, false, false, false, true, false]) (h5 : FlagsAt φf 5 [false, true, false, false, false, false, false, true, false, false, false, false]) (h6 : FlagsAt φf 6 [false, true, false, false, false, false, false, false, true, false, false, false]) : SuiteS (bSuiteH φf) := by
  intro cn fs w h a dd s hf
  cases h with
  | x0 x y => exact suite_0 h0 x y a dd s hf
  | x1 x => exact suite_1 h1 x a dd s hf
  | x8 x => exact suite_8 h8 x a dd s hf
  | x5 x => exact suite_5 h5 x a dd s hf
  | x6 x => exact suite_6 h6 x a dd s hf
theorem ok_heard {prs : Nat → Bool} {gs : Addr → Addr → Nat → Fn Ct} {m : Nat} {fb : Fn Dv} {env : En} {s : Sto} {T : Dv → Sto → Prop} (hg : SuiteS gs) (hm : m = 5) (hp : ∀ cn, cn < 9 → prs cn = true) (hf : Fl s)
    (h : OkE (fun e s1 => s1 = s ∧ ∃ cn fs w, e = .xn 0 0 cn fs ∧ HeardX cn fs w ∧ T w s) (fb env s) fun d s1 => s1 = s ∧ T (.tup [.str (Str.ofString "told"), d]) s) : OkE nX (fHeard prs m gs fb env s) T := by
  subst hm
  have nl : ∀ {d : Dv}, (∀ n, d ≠ .loc n) → gcZ s.length d s = .ok d s := fun {d} hd => by
    obtain ⟨d', s', e, h1, h2⟩ := (fin_any (T := fun d' s' => d' = d ∧ s' = s) hd ⟨rfl, rfl⟩).get
    rw [e, h1, h2]
  unfold fHeard
  cases hr : fb env s with
  | bad => rw [hr] at h; exact False.elim h
  | ok d s1 =>
    rw [hr] at h
    obtain ⟨es, hT⟩ := h
    show OkE nX (gcZ s.length (.tup [.str (Str.ofString "told"), d]) s1) T
    rw [es, nl (d := .tup [.str (Str.ofString "told"), d]) fun n => nofun]
    exact hT
  | exc e s1 =>
    rw [hr] at h
    obtain ⟨es, cn, fs, w, rfl, hx, hT⟩ := h
    rw [es]
    have c9 : cn < 9 := by cases hx <;> decide
    have wl : ∀ n, w ≠ .loc n := fun n hn => by subst hn; cases hx
    show OkE nX (Rs.iff (decide (cn < 9) && prs cn) _) T
    refine ok_iff.mpr ⟨by rw [decide_eq_true c9, hp cn c9]; rfl, ?_⟩
    rw [allX_eq (r := .ok w s) fun a dd => ?_]
    · exact hT
    · obtain ⟨ct, s2, e2, es2, v2, v3, v4, rfl⟩ := (hg cn fs w hx a dd s hf).get
      show Rs.bind (gs a dd cn [none, some oddT, some (.xn a dd cn fs), none, none] s) _ = _
      rw [e2, es2]
      exact nl wl
end Z

namespace Z
open PySem PySem.Spec L2

/-! ### steps of use to all -/
theorem ok_pick {α : Type} {own : List Nat} {i : Nat} {tt : Fn Bool} {te : Fn Dv} {enc f : α → Dv} {p : α → Bool} {xs : List α} {env : En} {s : Sto} {L : List Dv → Sto → Prop}
    (hh : ∀ x ∈ xs, OkE nX (tt ((wipeZ env own).set i (some (enc x))) s) fun b s2 => b = p x ∧ s2 = s ∧ (b = true → OkE nX (te ((wipeZ env own).set i (some (enc x))) s) fun y s3 => y = f x ∧ s3 = s)) (hL : L ((xs.filter p).map f) s) : OkE nX (lcZ noChk own (gNm i) tt te (xs.map enc) env s) L := by
  refine ok_lcI (fun j acc s' => acc = ((xs.take j).filter p).map f ∧ s' = s) (fun _ _ _ _ => rfl) (fun j d acc s' hd hi => ?_) (fun acc s' hi => ?_) ⟨by simp, rfl⟩
  · obtain ⟨rfl, rfl⟩ := hi
    rw [List.getElem?_map] at hd
    obtain ⟨x, hx, rfl⟩ := Option.map_eq_some_iff.mp hd
    rw [ok_gNm]
    refine (hh x (List.mem_of_getElem? hx)).mono fun b s2 h => ?_
    obtain ⟨rfl, rfl, h⟩ := h
    cases e : p x with
    | true =>
      rw [if_pos rfl]
      refine (h e).mono fun y s3 h => ?_
      obtain ⟨rfl, rfl⟩ := h
      exact ⟨by rw [take_succ' hx]; simp [e], rfl⟩
    | false =>
      rw [if_neg Bool.false_ne_true]
      exact ⟨by rw [take_succ' hx]; simp [e], rfl⟩
  · obtain ⟨rfl, rfl⟩ := hi
    rw [List.length_map, List.take_length]; exact hL
theorem all_map {α : Type} {xs : List α} {f : α → Bool} {s : Sto} : gAll [.ls (xs.map fun x => Dv.bl (f x))] s = .ok (.bl (xs.all f)) s := by
  have := all_ls (bs := xs.map f) (s := s)
  rw [List.map_map, List.all_map] at this
  exact this
theorem map_id' {ds : List Dv} : ds.map (fun d => d) = ds := List.map_id ds
theorem isLst_mk {n : Nat} {ds : List Dv} {s : Sto} (h : s[n]? = some (.lst ds)) : isLst n ds s = true := by
  unfold isLst
  rw [h]
  exact eqDvs_rfl ds
end Z

namespace Z
open PySem PySem.Spec PyProof.Rows L2

/-! ### any data: ints below 10^100, texts of at most 4096 signs -/
mutual
def gb : Nat → Dv → Bool
  | 0, _ => false
  | _ + 1, .non => true
  | _ + 1, .bl _ => true
  | _ + 1, .int i => decide (i.natAbs < 10 ^ 100)
  | _ + 1, .str x => PyData.strOk x && decide (x.cps.size ≤ 4096)
  | n + 1, .tup ds => gbs n ds
  | n + 1, .ls ds => gbs n ds
  | _ + 1, .loc _ => false
  | _ + 1, .xn .. => false
def gbs : Nat → List Dv → Bool
  | _, [] => true
  | n, d :: r => gb n d && gbs n r
end
mutual
def wb : Dv → Nat
  | .int _ => 334
  | .str x => x.cps.size
  | .tup ds => wbs ds
  | .ls ds => wbs ds
  | _ => 0
def wbs : List Dv → Nat
  | [] => 0
  | d :: r => wb d + 1 + wbs r
end
mutual
theorem py_gb {s : Sto} : ∀ {n m : Nat} {d : Dv}, gb n d = true → n ≤ m → py s m d = some (pd d)
  | 0, _, _, h, _ => by simp [gb] at h
  | n + 1, 0, _, _, hm => by omega
  | n + 1, m + 1, .non, _, _ => by simp [py, pd]
  | n + 1, m + 1, .bl _, _, _ => by simp [py, pd]
  | n + 1, m + 1, .int _, _, _ => by simp [py, pd]
  | n + 1, m + 1, .str _, _, _ => by simp [py, pd]
  | n + 1, m + 1, .tup ds, h, hm => by
    have h : gbs n ds = true := by simpa [gb] using h
    show (ds.mapM (py s m)).map PyData.tuple = _
    rw [pys_gb h (by omega)]; simp [pd]
  | n + 1, m + 1, .ls ds, h, hm => by
    have h : gbs n ds = true := by simpa [gb] using h
    show (ds.mapM (py s m)).map PyData.list = _
    rw [pys_gb h (by omega)]; simp [pd]
  | n + 1, m + 1, .loc _, h, _ => by simp [gb] at h
  | n + 1, m + 1, .xn .., h, _ => by simp [gb] at h
theorem pys_gb {s : Sto} : ∀ {n m : Nat} {ds : List Dv}, gbs n ds = true → n ≤ m → ds.mapM (py s m) = some (pds ds)
  | _, _, [], _, _ => by simp [pds]
  | n, m, d :: r, h, hm => by
    have h : gb n d = true ∧ gbs n r = true := by simpa [gbs] using h
    rw [List.mapM_cons, py_gb h.1 hm, pys_gb h.2 hm]; simp [pds]
end
theorem int_shortB {i : Int} (h : i.natAbs < 10 ^ 100) : (PyData.shown (.int i)).length ≤ 101 := by
  have := int_text_length_le10 (a := i) (k := 100) (by decide) h
  show (Str.ofString (toString i)).length ≤ 101
  rw [PySem.ofString_length]; exact this
theorem log2_big {n : Nat} (h : n < 10 ^ 100) : n.log2 < 333 := by
  by_cases h0 : n = 0
  · subst h0; decide
  · refine (Nat.log2_lt h0).mpr (Nat.lt_of_lt_of_le h (by decide +kernel))
theorem gb_str {n : Nat} {x : Str} : gb (n + 1) (.str x) = true ↔ PyData.strOk x = true ∧ x.cps.size ≤ 4096 := by simp [gb]
mutual
theorem gb_ok : ∀ {n : Nat} {d : Dv}, gb n d = true → (pd d).canLay0 = true ∧ (pd d).intsShort 101 = true ∧ (pd d).showable = true ∧ (pd d).weight ≤ wb d ∧ (pd d).depth ≤ n
  | 0, _, h => by simp [gb] at h
  | n + 1, .non, _ => by simp [pd, PyData.canLay0, PyData.intsShort, PyData.showable, PyData.weight, PyData.depth, wb]
  | n + 1, .bl _, _ => by simp [pd, PyData.canLay0, PyData.intsShort, PyData.showable, PyData.weight, PyData.depth, wb]
  | n + 1, .int i, h => by
    have h : i.natAbs < 10 ^ 100 := by simpa [gb] using h
    have hl := log2_big h
    refine ⟨by simp [pd, PyData.canLay0], ?_, ?_, ?_, by simp [pd, PyData.depth]⟩
    · simp only [pd, PyData.intsShort, decide_eq_true_eq]; exact int_shortB h
    · simp only [pd, PyData.showable, decide_eq_true_eq]; omega
    · simp only [pd, PyData.weight, wb]
      split <;> omega
  | n + 1, .str x, h => by
    have h := (gb_str.mp h).1
    simp [pd, PyData.canLay0, PyData.intsShort, PyData.showable, PyData.weight, PyData.depth, wb, h]
  | n + 1, .tup ds, h => by
    have h : gbs n ds = true := by simpa [gb] using h
    obtain ⟨h1, h2, h3, h4, h5⟩ := gbs_ok h
    refine ⟨by simpa [pd, PyData.canLay0] using h1, by simpa [pd, PyData.intsShort] using h2, by simpa [pd, PyData.showable] using h3, by simpa [pd, PyData.weight, wb] using h4, ?_⟩
    simp only [pd, PyData.depth]; omega
  | n + 1, .ls ds, h => by
    have h : gbs n ds = true := by simpa [gb] using h
    obtain ⟨h1, h2, h3, h4, h5⟩ := gbs_ok h
    refine ⟨by simpa [pd, PyData.canLay0] using h1, by simpa [pd, PyData.intsShort] using h2, by simpa [pd, PyData.showable] using h3, by simpa [pd, PyData.weight, wb] using h4, ?_⟩
    simp only [pd, PyData.depth]; omega
  | n + 1, .loc _, h => by simp [gb] at h
  | n + 1, .xn .., h => by simp [gb] at h
theorem gbs_ok : ∀ {n : Nat} {ds : List Dv}, gbs n ds = true → PyData.canLayAll0 (pds ds) = true ∧ PyData.intsShortAll 101 (pds ds) = true ∧ PyData.showableAll (pds ds) = true ∧ PyData.weightAll (pds ds) ≤ wbs ds ∧ PyData.depthAll (pds ds) ≤ n
  | _, [], _ => by simp [pds, PyData.canLayAll0, PyData.intsShortAll, PyData.showableAll, PyData.weightAll, PyData.depthAll, wbs]
  | n, d :: r, h => by
    have h : gb n d = true ∧ gbs n r = true := by simpa [gbs] using h
    obtain ⟨a1, a2, a3, a4, a5⟩ := gb_ok h.1
    obtain ⟨b1, b2, b3, b4, b5⟩ := gbs_ok h.2
    refine ⟨by simp [pds, PyData.canLayAll0, a1, b1], by simp [pds, PyData.intsShortAll, a2, b2], by simp [pds, PyData.showableAll, a3, b3], ?_, ?_⟩
    · simp only [pds, PyData.weightAll, wbs]; omega
    · simp only [pds, PyData.depthAll]; omega
end
theorem repr_gb {n : Nat} {d : Dv} {s : Sto} (h : gb n d = true) (hn : n ≤ 40) (hw : wb d ≤ 160000) : gRepr [d] s = .ok (.str (pd d).shown) s := by
  obtain ⟨h1, h2, h3, h4, h5⟩ := gb_ok h
  have hl := PyData.shown_le 101 (by decide) (pd d) (PyData.leavesShort_of_canLay0 101 _ h1 h2)
  have hl2 : (pd d).shown.length ≤ 16777216 := by
    have h6 : (101 + 2) * (pd d).weight ≤ 103 * 160000 := Nat.mul_le_mul (by decide) (by omega)
    omega
  show (match pyOf s d with | some p => Rs.iff (p.showable && decide (p.shown.length ≤ 16777216)) (Rs.ok (Dv.str p.shown) s) | none => .bad) = _
  rw [show pyOf s d = some (pd d) from py_gb h hn]
  show Rs.iff ((pd d).showable && decide ((pd d).shown.length ≤ 16777216)) _ = _
  rw [h3, decide_eq_true hl2]; rfl
theorem gb_tup {n : Nat} {ds : List Dv} : gb (n + 1) (.tup ds) = gbs n ds := by simp [gb]
theorem gb_ls {n : Nat} {ds : List Dv} : gb (n + 1) (.ls ds) = gbs n ds := by simp [gb]
theorem gb_mem : ∀ {n : Nat} {ds : List Dv}, gbs n ds = true → ∀ d ∈ ds, gb n d = true
  | _, [], _, d, hd => absurd hd List.not_mem_nil
  | n, x :: r, h, d, hd => by
    have h : gb n x = true ∧ gbs n r = true := by simpa [gbs] using h
    rcases List.mem_cons.mp hd with e | e
    · rw [e]; exact h.1
    · exact gb_mem h.2 d e
theorem gbs_all {n : Nat} : ∀ {ds : List Dv}, (∀ d ∈ ds, gb n d = true) → gbs n ds = true
  | [], _ => by simp [gbs]
  | d :: r, h => by
    simp only [gbs, Bool.and_eq_true]
    exact ⟨h d List.mem_cons_self, gbs_all fun x hx => h x (List.mem_cons_of_mem _ hx)⟩
theorem wbs_len : ∀ (ds : List Dv), ds.length ≤ wbs ds
  | [] => Nat.le_refl _
  | d :: r => by have := wbs_len r; rw [wbs, List.length_cons]; omega
theorem wb_mem : ∀ {ds : List Dv} {d : Dv}, d ∈ ds → wb d + 1 ≤ wbs ds
  | [], d, hd => absurd hd List.not_mem_nil
  | x :: r, d, hd => by
    rw [wbs]
    rcases List.mem_cons.mp hd with e | e
    · rw [e]; omega
    · have := wb_mem e; omega
theorem wb_tup {ds : List Dv} : wb (.tup ds) = wbs ds := by simp [wb]
theorem gb_okX {n : Nat} {d : Dv} (h : gb n d = true) : okX d = true := by
  cases d with
  | xn => cases n <;> simp [gb] at h
  | _ => rfl
theorem gbs_shape {n : Nat} {ds : List Dv} (h : gbs n ds = true) (hn : n ≤ 39) {s : Sto} : pyOf s (.tup ds) = some (.tuple (pds ds)) ∧ SeqAt.shaped (.tuple (pds ds)) = true ∧ pyOf s (.ls ds) = some (.list (pds ds)) ∧ SeqAt.shaped (.list (pds ds)) = true := by
  obtain ⟨h1, h2, h3, h4, h5⟩ := gbs_ok h
  refine ⟨?_, ?_, ?_, ?_⟩
  · show (ds.mapM (py s 39)).map PyData.tuple = _
    rw [pys_gb h hn]; rfl
  · simp [SeqAt.shaped, PyData.canLay0, PyData.depth, h1]; omega
  · show (ds.mapM (py s 39)).map PyData.list = _
    rw [pys_gb h hn]; rfl
  · simp [SeqAt.shaped, PyData.canLay0, PyData.depth, h1]; omega
theorem pds_nil {ds : List Dv} : PyData.eqvAll (pds ds) [] = ds.isEmpty := by
  cases ds with
  | nil => simp [pds, PyData.eqvAll]
  | cons d r => simp [pds, PyData.eqvAll]
theorem eqL_nil {n : Nat} {ds : List Dv} (h : gbs n ds = true) (hn : n ≤ 39) {s : Sto} : gEq (.ls ds) (.ls []) s = .ok (.bl ds.isEmpty) s := by
  obtain ⟨_, _, h1, h2⟩ := gbs_shape h hn (s := s)
  obtain ⟨_, _, g1, g2⟩ := gbs_shape (ds := []) (n := 0) rfl (by omega) (s := s)
  show (match pyOf s (.ls ds), pyOf s (.ls []) with | some p, some q => Rs.iff (SeqAt.shaped p && SeqAt.shaped q) (Rs.ok (Dv.bl (PyData.eqv p q)) s) | _, _ => .bad) = _
  rw [h1, g1]
  show Rs.iff (SeqAt.shaped (.list (pds ds)) && SeqAt.shaped (.list (pds []))) (Rs.ok (Dv.bl (PyData.eqv (.list (pds ds)) (.list (pds [])))) s) = _
  rw [h2, g2, PyData.eqv, show pds [] = [] by simp [pds], pds_nil]; rfl
theorem neL_nil {n : Nat} {ds : List Dv} (h : gbs n ds = true) (hn : n ≤ 39) {s : Sto} : gNe (.ls ds) (.ls []) s = .ok (.bl (!ds.isEmpty)) s := by
  show (gEq (.ls ds) (.ls []) s).bind _ = _
  rw [eqL_nil h hn]; rfl
/-! ### kinds -/
def isStrD : Dv → Bool
  | .str _ => true
  | _ => false
def isTupD : Dv → Bool
  | .tup _ => true
  | _ => false
def isIntD : Dv → Bool
  | .int _ => true
  | .bl _ => true
  | _ => false
def isBlD : Dv → Bool
  | .bl _ => true
  | _ => false
end Z

namespace Z
open PySem PySem.Spec L2

/-! ### words and numbers of any things, rows of any things -/
structure Thg (d : Dv) : Prop where
  g : gb 30 d = true
  w : wb d ≤ 160000
theorem Thg.okX {d : Dv} (h : Thg d) : Z.okX d = true := gb_okX h.g
theorem Thg.mem {ds : List Dv} {d : Dv} (h : gbs 29 ds = true) (hw : wbs ds ≤ 160000) (hd : d ∈ ds) : gb 29 d = true ∧ wb d ≤ 160000 := ⟨gb_mem h d hd, by have := wb_mem hd; omega⟩
mutual
theorem gb_up : ∀ {n m : Nat} {d : Dv}, gb n d = true → n ≤ m → gb m d = true
  | 0, _, _, h, _ => by simp [gb] at h
  | n + 1, 0, _, _, hm => by omega
  | n + 1, m + 1, .non, _, _ => by simp [gb]
  | n + 1, m + 1, .bl _, _, _ => by simp [gb]
  | n + 1, m + 1, .int _, h, _ => by simpa [gb] using h
  | n + 1, m + 1, .str _, h, _ => by simpa [gb] using h
  | n + 1, m + 1, .tup ds, h, hm => by rw [gb_tup] at h ⊢; exact gbs_up h (by omega)
  | n + 1, m + 1, .ls ds, h, hm => by rw [gb_ls] at h ⊢; exact gbs_up h (by omega)
  | n + 1, m + 1, .loc _, h, _ => by simp [gb] at h
  | n + 1, m + 1, .xn .., h, _ => by simp [gb] at h
theorem gbs_up : ∀ {n m : Nat} {ds : List Dv}, gbs n ds = true → n ≤ m → gbs m ds = true
  | _, _, [], _, _ => by simp [gbs]
  | n, m, d :: r, h, hm => by
    have h : gb n d = true ∧ gbs n r = true := by simpa [gbs] using h
    simp only [gbs, Bool.and_eq_true]
    exact ⟨gb_up h.1 hm, gbs_up h.2 hm⟩
end
theorem Thg.tup {ds : List Dv} (h : Thg (.tup ds)) : gbs 29 ds = true ∧ wbs ds ≤ 160000 ∧ ds.length ≤ 160000 := by
  have h1 := h.g
  have h2 := h.w
  rw [gb_tup] at h1
  rw [wb_tup] at h2
  exact ⟨h1, h2, Nat.le_trans (wbs_len ds) h2⟩
theorem Thg.of {ds : List Dv} (h : gbs 29 ds = true) (hw : wbs ds ≤ 160000) {d : Dv} (hd : d ∈ ds) : Thg d := ⟨gb_up (gb_mem h d hd) (by omega), by have := wb_mem hd; omega⟩
theorem Thg.str {z : Str} (h : Thg (.str z)) : PyData.strOk z = true ∧ z.length ≤ 4096 := gb_str.mp h.g
def isFromD : Dv → Bool
  | .int i => decide (0 ≤ i)
  | _ => false
def ThS (φ : Phi) (p : Dv → Bool) : Prop := ∀ (d : Dv) (s : Sto) (T : Dv → Sto → Prop), Thg d → T (.bl (p d)) s → OkE nX (φ [d] s) T
def bFrom (φn : Phi) : Fn Ct := fRet (fAnd (fCall φn (fCons (fVar 0) (fNil))) (fBin gGe (fVar 0) (fC (.int 0))))
def bFromL : Fn Ct := fRet (fAnd (fIsi "int" (fVar 0)) (fAnd (fNot (fIsi "bool" (fVar 0))) (fBin gGe (fVar 0) (fC (.int 0)))))
def bWordL : Fn Ct :=
  fSeq (fIfS (fOrT (fNotT (fTest (fIsi "str" (fVar 0)))) (fNotT (fTest (fChain gLe gLe (fC (.int 1)) (fCall gLen (fCons (fVar 0) (fNil))) (fC (.int 8)))))) (fRet (fC (.bl false))) (fNop))
  (fRet (fBin gEq (fVal (fLc (fSrcS (fVar 0)) [1] (gNm 1) (fTest (fBin gNotIn (fVar 1) (fC (.str (Str.ofString "abcdefghijklmnopqrstuvwxyz"))))) (fVar 1))) (fVal (fLst (fNil)))))
end Z

namespace Z
open PySem PySem.Spec L2

/-! ### all ends of a count -/
inductive Two {α β : Type} (R : α → β → Prop) : List α → List β → Prop where
  | nil : Two R [] []
  | cons {a : α} {b : β} {as : List α} {bs : List β} : R a b → Two R as bs → Two R (a :: as) (b :: bs)
theorem Two.len {α β : Type} {R : α → β → Prop} {as : List α} {bs : List β} (h : Two R as bs) : bs.length = as.length := by
  induction h with
  | nil => rfl
  | cons _ _ ih => simp [ih]
theorem Two.get {α β : Type} {R : α → β → Prop} {as : List α} {bs : List β} (h : Two R as bs) : ∀ (i : Nat) (b : β) (a : α), bs[i]? = some b → as[i]? = some a → R a b := by
  induction h with
  | nil => intro i b a h; simp at h
  | cons r _ ih =>
    intro i b a h1 h2
    cases i with
    | zero => cases h1; cases h2; exact r
    | succ i => exact ih i b a h1 h2
theorem Two.map {α β : Type} {R : α → β → Prop} (f : α → β) : ∀ {as : List α}, (∀ a ∈ as, R a (f a)) → Two R as (as.map f)
  | [], _ => .nil
  | a :: r, h => .cons (h a List.mem_cons_self) (Two.map f fun b hb => h b (List.mem_cons_of_mem _ hb))
def rngI (lo hi : Int) : List Int := (List.range (hi - lo).toNat).map fun (i : Nat) => lo + (i : Int)
def stepL (rows : List (List (Str × Int))) (p : Pil) : List (List (Str × Int)) := rows.flatMap fun row => (p.name :: p.others).flatMap fun one => (rngI p.least (p.many + p.slip + 1)).map fun n => row ++ [(one, n)]
def stepD (gifts : List (List Str)) (names : List Str) : List (List Str) := gifts.flatMap fun g => names.map fun one => g ++ [one]
def allRows (ps : List Pil) : List (List (Str × Int)) := ps.foldl stepL [[]]
def allGifts (ds : List (List Str)) : List (List Str) := ds.foldl stepD [[]]
def allEnds (c : Cnt) : List (List (Str × Int) × List Str) := (allRows c.piles).flatMap fun row => (allGifts c.doubts).map fun g => (row, g)
def Lies (p : Pil) (x : Str × Int) : Prop := (x.1 = p.name ∨ x.1 ∈ p.others) ∧ p.least ≤ x.2 ∧ x.2 ≤ p.many + p.slip
/-! ### how many -/
/-! ### a walk over a list where it lies -/
theorem ok_mapC {chk : Sto → Bool} {own : List Nat} {g : Dv → Fn En} {tt : Fn Bool} {te : Fn Dv} {ds : List Dv} {env : En} {s : Sto} {L : List Dv → Sto → Prop} (hc : chk s = true) (p : Dv → Bool) (h : Dv → Dv)
    (hh : ∀ d ∈ ds, OkE nX (g d (wipeZ env own) s) fun env1 s1 => OkE nX (tt env1 s1) fun b s2 => b = p d ∧ if b = true then OkE nX (te env1 s2) fun y s3 => y = h d ∧ s3 = s else s2 = s) (hL : L ((ds.filter p).map h) s) : OkE nX (lcZ chk own g tt te ds env s) L := by
  refine ok_lcI (fun j acc s' => acc = ((ds.take j).filter p).map h ∧ s' = s) (fun _ _ _ q => by rw [q.2]; exact hc) (fun j d acc s' hd hi => ?_) (fun acc s' hi => ?_) ⟨by simp, rfl⟩
  · obtain ⟨rfl, rfl⟩ := hi
    refine (hh d (List.mem_of_getElem? hd)).mono fun env1 s1 h1 => h1.mono fun b s2 h2 => ?_
    obtain ⟨rfl, h2⟩ := h2
    rw [take_succ' hd, List.filter_append]
    cases e : p d with
    | true =>
      rw [e, if_pos rfl] at h2
      rw [if_pos rfl]
      refine h2.mono fun y s3 h3 => ?_
      obtain ⟨rfl, rfl⟩ := h3
      exact ⟨by simp [e], rfl⟩
    | false =>
      rw [e, if_neg Bool.false_ne_true] at h2
      rw [if_neg Bool.false_ne_true]
      exact ⟨by simp [e], h2⟩
  · obtain ⟨rfl, rfl⟩ := hi
    rw [List.take_length]; exact hL
/-- data as a list: by value, or at a place of the store -/
def ListAt (s : Sto) (d : Dv) (ds : List Dv) : Prop := d = .ls ds ∨ ∃ n, d = .loc n ∧ s[n]? = some (.lst ds)
theorem eqDvs_self (ds : List Dv) : eqDvs ds ds = true := eqDvs_rfl ds
theorem ListAt.src {s : Sto} {d : Dv} {ds : List Dv} (h : ListAt s d ds) : ∃ chk : Sto → Bool, (∀ (S : Src → Sto → Prop) (l : Sto), srcK nX S d (s ++ l) = S (ds, chk) (s ++ l)) ∧ ∀ l : Sto, chk (s ++ l) = true := by
  rcases h with rfl | ⟨n, rfl, hn⟩
  · exact ⟨noChk, fun S l => rfl, fun l => rfl⟩
  · have hl := (List.getElem?_eq_some_iff.mp hn).1
    have hg : ∀ l : Sto, (s ++ l)[n]? = some (.lst ds) := fun l => by rw [List.getElem?_append_left hl]; exact hn
    refine ⟨isLst n ds, fun S l => srcK_loc (hg l), fun l => ?_⟩
    unfold isLst
    rw [hg l]
    exact eqDvs_self ds
end Z

namespace Z
open PySem PySem.Spec L2

/-! ### all ends, walked -/
def encRow (row : List (Str × Int)) : Dv := .tup (row.map encL)
def bEnds3 : Fn Ct := (fFor (fRng2 (fCons (fCall (gTwo fun i j => if j > i then j else i) (fCons (fC (.int 0)) (fCons (fBin gSub (fVar 3) (fVar 4)) (fNil)))) (fCons (fBin gAdd (fBin gAdd (fVar 3) (fVar 4)) (fC (.int 1))) (fNil)))) (gNm 9) (fDrop (fMt isL gAppend (fVar 6) (fCons (fBin gAdd (fVar 7) (fTup (fCons (fTup (fCons (fVar 8) (fCons (fVar 9) (fNil)))) (fNil)))) (fNil)))))
def bEnds2 : Fn Ct := (fFor (fSrc (fVar 1)) (gNm 7) (fFor (fSrc (fBin gAdd (fTup (fCons (fVar 2) (fNil))) (fVar 5))) (gNm 8) bEnds3))
def bEndsP : Fn Ct := (fSeq (fSet 6 (fNew (fLst (fNil))))
  (fSeq bEnds2
  (fSet 1 (fVar 6))))
def bEndsG : Fn Ct := (fSeq (fSet 12 (fNew (fLst (fNil))))
  (fSeq (fFor (fSrc (fVar 10)) (gNm 13) (fDrop (fExtend (fVar 12) (fLc (fSrc (fVar 11)) [8] (gNm 8) (fYes) (fBin gAdd (fVar 13) (fTup (fCons (fVar 8) (fNil))))))))
  (fSet 10 (fVar 12))))
def bEndsF : Fn Ct := (fSeq (fSet 14 (fNew (fLst (fNil))))
  (fSeq (fFor (fSrc (fVar 1)) (gNm 7) (fDrop (fExtend (fVar 14) (fLc (fSrc (fVar 10)) [13] (gNm 13) (fYes) (fTup (fCons (fVar 7) (fCons (fVar 13) (fNil))))))))
  (fRet (fVar 14))))
def bEnds : Fn Ct :=
  fSeq (fSet 1 (fVal (fLst (fCons (fTup (fNil)) (fNil)))))
  (fSeq (fFor (fSrc (fBin gIx (fVar 0) (fC (.int 1)))) (gTp 4 (gsCons (gNm 2) (gsCons (gNm 3) (gsCons (gNm 4) (gsCons (gNm 5) (gsNil)))))) bEndsP)
  (fSeq (fSet 10 (fVal (fLst (fCons (fTup (fNil)) (fNil)))))
  (fSeq (fFor (fSrc (fBin gIx (fVar 0) (fC (.int 2)))) (gNm 11) bEndsG)
  bEndsF)))
def goOn (P : En → Sto → Prop) : Ct → Sto → Prop := fun c s => match c with
  | .next e => P e s
  | _ => False
def encPre (cd d1 : Dv) (p : Pil) (n : Nat) : En := [some cd, some d1, some (.str p.name), some (.int p.many), some (.int p.slip), some (encS p.others), some (.loc n)]
structure PilT (p : Pil) : Prop where
  m0 : 0 ≤ p.many
  m1 : p.many ≤ 1000000
  s0 : 0 ≤ p.slip
  s1 : p.slip ≤ 1
  o : p.others.length ≤ 2
theorem ListAt.more {s l : Sto} {d : Dv} {ds : List Dv} (h : ListAt s d ds) : ListAt (s ++ l) d ds := by
  rcases h with h | ⟨n, h, hn⟩
  · exact .inl h
  · exact .inr ⟨n, h, by rw [List.getElem?_append_left (List.getElem?_eq_some_iff.mp hn).1]; exact hn⟩
def EndsS (φ : Phi) : Prop := ∀ (c : Cnt) (s : Sto), (∀ p ∈ c.piles, PilT p) → c.piles.length ≤ 3 → c.doubts.length ≤ 3 → (∀ d ∈ c.doubts, d.length ≤ 6) → Fl s → OkE nX (φ [encC c] s) fun d s' => d = .ls ((allEnds c).map fun e => encE e.1 e.2) ∧ s' = s
end Z

namespace Z
open PySem PySem.Spec L2

/-! ### the least, the greatest end -/
def lpile (z : Str) (p : Pil) : Str × Int := (if p.name = z then p.others.headD z else p.name, p.least)
def gpile (z : Str) (p : Pil) : Str × Int := (if z ∈ p.others then z else p.name, p.many + p.slip)
def ldoubt (z : Str) (q : List Str) : Str := (q.filter fun x => !(x == z) || decide (q.length = 1)).headD z
def gdoubt (z : Str) (q : List Str) : Str := if z ∈ q then z else q.headD z
def lowSum (c : Cnt) (z : Str) : Int := (c.piles.map fun p => if p.name = z ∧ p.others = [] then p.least else 0).sum + (c.doubts.map fun q => if q = [z] then (1 : Int) else 0).sum
def highSum (c : Cnt) (z : Str) : Int := (c.piles.map fun p => if p.name = z ∨ z ∈ p.others then p.many + p.slip else 0).sum + (c.doubts.map fun q => if z ∈ q then (1 : Int) else 0).sum
def tv (l : List (Str × Int)) (g : List Str) (z : Str) : Int := sumOf l z + cntOf g z
theorem Two.imp {α β : Type} {R S : α → β → Prop} {as : List α} {bs : List β} (t : Two R as bs) (h : ∀ a ∈ as, ∀ b, R a b → S a b) : Two S as bs := by
  induction t with
  | nil => exact .nil
  | cons r _ ih => exact .cons (h _ List.mem_cons_self _ r) (ih fun a ha b r => h a (List.mem_cons_of_mem _ ha) b r)
theorem Two.mem {α β : Type} {R : α → β → Prop} {as : List α} {bs : List β} (t : Two R as bs) {b : β} (hb : b ∈ bs) : ∃ a ∈ as, R a b := by
  induction t with
  | nil => cases hb
  | cons r _ ih =>
    rcases List.mem_cons.mp hb with h | h
    · rw [h]; exact ⟨_, List.mem_cons_self, r⟩
    · obtain ⟨a, ha, r⟩ := ih h
      exact ⟨a, List.mem_cons_of_mem _ ha, r⟩
end Z

namespace Z
open PySem PySem.Spec L2

/-! ### the program's parts of law 10 -/
def bAt : Fn Ct :=
  fSeq (fIfS (fTest (fBin gNotIn (fVar 1) (fVar 0))) (fNever) (fNop))
  (fRet (fIndex (fVar 0) (fCons (fVar 1) (fNil))))
def AtS (φ : Phi) : Prop := ∀ (lots : List Str) (z : Str) (s : Sto) (T : Dv → Sto → Prop), z ∈ lots → (∀ k : Nat, lots[k]? = some z → T (.int (k : Nat)) s) → OkE nX (φ [encS lots, .str z] s) T
def bLPile (φl : Phi) : Fn Ct :=
  fSeq (fIfS (fTest (fBin gNe (fBin gIx (fVar 0) (fC (.int 0))) (fVar 1))) (fRet (fTup (fCons (fBin gIx (fVar 0) (fC (.int 0))) (fCons (fCall φl (fCons (fVar 0) (fNil))) (fNil))))) (fNop))
  (fRet (fTup (fCons (fIf (fTest (fBin gGt (fCall gLen (fCons (fBin gIx (fVar 0) (fC (.int 3))) (fNil))) (fC (.int 0)))) (fBin gIx (fBin gIx (fVar 0) (fC (.int 3))) (fC (.int 0))) (fVar 1)) (fCons (fCall φl (fCons (fVar 0) (fNil))) (fNil)))))
def PileF (φ : Phi) (f : Str → Pil → Str × Int) : Prop := ∀ (p : Pil) (z : Str) (s : Sto) (T : Dv → Sto → Prop), T (encL (f z p)) s → OkE nX (φ [encP p, .str z] s) T
def bGPile (φg : Phi) : Fn Ct :=
  fRet (fTup (fCons (fIf (fTest (fBin gIn (fVar 1) (fBin gIx (fVar 0) (fC (.int 3))))) (fVar 1) (fBin gIx (fVar 0) (fC (.int 0)))) (fCons (fCall φg (fCons (fVar 0) (fNil))) (fNil))))
def bLDoubt : Fn Ct :=
  fRet (fBin gIx (fVal (fLc (fSrc (fVar 0)) [2] (gNm 2) (fOrT (fTest (fBin gNe (fVar 2) (fVar 1))) (fTest (fBin gEq (fCall gLen (fCons (fVar 0) (fNil))) (fC (.int 1))))) (fVar 2))) (fC (.int 0)))
def LDoubtS (φ : Phi) : Prop := ∀ (q : List Str) (z : Str) (s : Sto) (T : Dv → Sto → Prop), q.Nodup → q ≠ [] → q.length ≤ 1000 → T (.str (ldoubt z q)) s → OkE nX (φ [encS q, .str z] s) T
def bLEnd (φp φd : Phi) : Fn Ct :=
  fSeq (fSet 2 (fVal (fLc (fSrc (fBin gIx (fVar 0) (fC (.int 1)))) [3] (gNm 3) (fYes) (fCall φp (fCons (fVar 3) (fCons (fVar 1) (fNil)))))))
  (fRet (fTup (fCons (fCall gTuple (fCons (fVar 2) (fNil))) (fCons (fCall gTuple (fCons (fVal (fLc (fSrc (fBin gIx (fVar 0) (fC (.int 2)))) [4] (gNm 4) (fYes) (fCall φd (fCons (fVar 4) (fCons (fVar 1) (fNil)))))) (fNil))) (fNil)))))
def EndF (φ : Phi) (f : Str → Pil → Str × Int) (g : Str → List Str → Str) : Prop := ∀ (c : Cnt) (z : Str) (s : Sto) (T : Dv → Sto → Prop), CntOk c → T (encE (c.piles.map (f z)) (c.doubts.map (g z))) s → OkE nX (φ [encC c, .str z] s) T
def bGEnd (φp : Phi) : Fn Ct :=
  fSeq (fSet 2 (fVal (fLc (fSrc (fBin gIx (fVar 0) (fC (.int 1)))) [3] (gNm 3) (fYes) (fCall φp (fCons (fVar 3) (fCons (fVar 1) (fNil)))))))
  (fRet (fTup (fCons (fCall gTuple (fCons (fVar 2) (fNil))) (fCons (fCall gTuple (fCons (fVal (fLc (fSrc (fBin gIx (fVar 0) (fC (.int 2)))) [4] (gNm 4) (fYes) (fIf (fTest (fBin gIn (fVar 1) (fVar 4))) (fVar 1) (fBin gIx (fVar 4) (fC (.int 0)))))) (fNil))) (fNil)))))
end Z

namespace Z
open PySem PySem.Spec L2

/-! ### spans told and judged -/
def encSp (a : Int) (l1 : List (Str × Int)) (g1 : List Str) (b : Int) (l2 : List (Str × Int)) (g2 : List Str) : Dv := .tup [.int a, encE l1 g1, .int b, encE l2 g2]
def lowL (c : Cnt) (z : Str) := c.piles.map (lpile z)
def lowD (c : Cnt) (z : Str) := c.doubts.map (ldoubt z)
def highL (c : Cnt) (z : Str) := c.piles.map (gpile z)
def highD (c : Cnt) (z : Str) := c.doubts.map (gdoubt z)
def bSpan (φa φl φg φy : Phi) : Fn Ct :=
  fSeq (fSet 2 (fCall φa (fCons (fBin gIx (fVar 0) (fC (.int 0))) (fCons (fVar 1) (fNil)))))
  (fSeq (fPar2 3 4 (fCons (fCall φl (fCons (fVar 0) (fCons (fVar 1) (fNil)))) (fCons (fCall φg (fCons (fVar 0) (fCons (fVar 1) (fNil)))) (fNil))))
  (fRet (fTup (fCons (fBin gIx (fCall φy (fCons (fVar 0) (fCons (fVar 3) (fNil)))) (fVar 2)) (fCons (fVar 3) (fCons (fBin gIx (fCall φy (fCons (fVar 0) (fCons (fVar 4) (fNil)))) (fVar 2)) (fCons (fVar 4) (fNil))))))))
def SpanS (φ : Phi) : Prop := ∀ (c : Cnt) (z : Str) (s : Sto) (T : Dv → Sto → Prop), CntOk c → z ∈ c.lots → Fl s → T (encSp (lowSum c z) (lowL c z) (lowD c z) (highSum c z) (highL c z) (highD c z)) s → OkE nX (φ [encC c, .str z] s) T
def bLSum (φl : Phi) : Fn Ct :=
  fSeq (fSet 2 (fVal (fLc (fSrc (fBin gIx (fVar 0) (fC (.int 1)))) [3] (gNm 3) (fAndT (fTest (fBin gEq (fBin gIx (fVar 3) (fC (.int 0))) (fVar 1))) (fTest (fBin gEq (fBin gIx (fVar 3) (fC (.int 3))) (fTup (fNil))))) (fCall φl (fCons (fVar 3) (fNil))))))
  (fRet (fSumS (fVar 2) (fCall gLen (fCons (fVal (fLc (fSrc (fBin gIx (fVar 0) (fC (.int 2)))) [4] (gNm 4) (fTest (fBin gEq (fVar 4) (fTup (fCons (fVar 1) (fNil))))) (fVar 4))) (fNil)))))
def SumF (φ : Phi) (f : Cnt → Str → Int) : Prop := ∀ (c : Cnt) (z : Str) (s : Sto) (T : Dv → Sto → Prop), CntOk c → z ∈ c.lots → T (.int (f c z)) s → OkE nX (φ [encC c, .str z] s) T
def bGSum (φg : Phi) : Fn Ct :=
  fSeq (fSet 2 (fVal (fLc (fSrc (fBin gIx (fVar 0) (fC (.int 1)))) [3] (gNm 3) (fOrT (fTest (fBin gEq (fBin gIx (fVar 3) (fC (.int 0))) (fVar 1))) (fTest (fBin gIn (fVar 1) (fBin gIx (fVar 3) (fC (.int 3)))))) (fCall φg (fCons (fVar 3) (fNil))))))
  (fRet (fSumS (fVar 2) (fCall gLen (fCons (fVal (fLc (fSrc (fBin gIx (fVar 0) (fC (.int 2)))) [4] (gNm 4) (fTest (fBin gIn (fVar 1) (fVar 4))) (fVar 4))) (fNil)))))
def bNeedT : Fn Ct := fIfS (fNotT (fTest (fVar 0))) (fNever) (fNop)
def NeedT (φ : Phi) : Prop := ∀ (d e : Dv) (s : Sto) (T : Dv → Sto → Prop), T .non s → OkE nX (φ [.bl true, d, e] s) T
def bJudge (φa φw φn φs φf φy φl φg : Phi) : Fn Ct :=
  fSeq (fSet 3 (fCall φa (fCons (fBin gIx (fVar 0) (fC (.int 0))) (fCons (fVar 1) (fNil)))))
  (fSeq (fDrop (fCall φw (fCons (fAnd (fIsi "tuple" (fVar 2)) (fAnd (fBin gEq (fCall gLen (fCons (fVar 2) (fNil))) (fC (.int 4))) (fAnd (fCall φn (fCons (fBin gIx (fVar 2) (fC (.int 0))) (fNil))) (fCall φn (fCons (fBin gIx (fVar 2) (fC (.int 2))) (fNil)))))) (fCons (fC (.str (Str.ofString "shape"))) (fCons (fUn gNeg (fC (.int 1))) (fNil))))))
  (fSeq (fFor (fSrc (fTup (fCons (fC (.int 1)) (fCons (fC (.int 3)) (fNil))))) (gNm 4) (fDrop (fCall φw (fCons (fCall φs (fCons (fBin gIx (fVar 2) (fVar 4)) (fNil))) (fCons (fC (.str (Str.ofString "shape"))) (fCons (fTup (fCons (fVar 4) (fCons (fUn gNeg (fC (.int 1))) (fNil)))) (fNil)))))))
  (fSeq (fFor (fSrc (fTup (fCons (fC (.int 1)) (fCons (fC (.int 3)) (fNil))))) (gNm 4) (fSeq (fSet 5 (fCall φf (fCons (fVar 0) (fCons (fBin gIx (fVar 2) (fVar 4)) (fNil)))))
  (fIfS (fTest (fBin gIsNot (fVar 5) (fC .non))) (fNever) (fNop))))
  (fSeq (fFor (fSrc (fTup (fCons (fC (.int 0)) (fCons (fC (.int 2)) (fNil))))) (gNm 4) (fDrop (fCall φw (fCons (fBin gEq (fBin gIx (fCall φy (fCons (fVar 0) (fCons (fBin gIx (fVar 2) (fBin gAdd (fVar 4) (fC (.int 1)))) (fNil)))) (fVar 3)) (fBin gIx (fVar 2) (fVar 4))) (fCons (fC (.str (Str.ofString "told"))) (fCons (fVar 4) (fNil)))))))
  (fSeq (fDrop (fCall φw (fCons (fBin gEq (fBin gIx (fVar 2) (fC (.int 0))) (fCall φl (fCons (fVar 0) (fCons (fVar 1) (fNil))))) (fCons (fC (.str (Str.ofString "least"))) (fCons (fUn gNeg (fC (.int 1))) (fNil))))))
  (fSeq (fDrop (fCall φw (fCons (fBin gEq (fBin gIx (fVar 2) (fC (.int 2))) (fCall φg (fCons (fVar 0) (fCons (fVar 1) (fNil))))) (fCons (fC (.str (Str.ofString "greatest"))) (fCons (fUn gNeg (fC (.int 1))) (fNil))))))
  (fRet (fTup (fCons (fBin gIx (fVar 2) (fC (.int 0))) (fCons (fBin gIx (fVar 2) (fC (.int 2))) (fNil)))))))))))
def JudgeS (φ : Phi) : Prop := ∀ (c : Cnt) (z : Str) (s : Sto) (T : Dv → Sto → Prop), CntOk c → z ∈ c.lots → Fl s → T (.tup [.int (lowSum c z), .int (highSum c z)]) s →
  OkE nX (φ [encC c, .str z, encSp (lowSum c z) (lowL c z) (lowD c z) (highSum c z) (highL c z) (highD c z)] s) T
end Z

namespace Z
open PySem PySem.Spec L2

/-! ### small counts -/
def bSmall2 (φt φn : Phi) : Fn Ct :=
  (fRet (fTup (fCons (fVar 1) (fCons (fCall gTuple (fCons (fVar 2) (fNil))) (fCons (fCall gTuple (fCons (fVal (fLc (fRng1 (fCons (fCall φt (fCons (fVar 0) (fCons (fC (.int 4)) (fNil)))) (fNil))) [3] (gNm 3) (fYes) (fCall φn (fCons (fVar 0) (fCons (fVar 1) (fNil)))))) (fNil))) (fNil))))))
def bSmall (φt φl φo φn : Phi) : Fn Ct :=
  fSeq (fSet 1 (fCall φl (fCons (fVar 0) (fCons (fBin gAdd (fC (.int 2)) (fCall φt (fCons (fVar 0) (fCons (fC (.int 3)) (fNil))))) (fNil)))))
  (fSeq (fSet 2 (fNew (fLst (fNil))))
  (fSeq (fFor (fRng1 (fCons (fCall φt (fCons (fVar 0) (fCons (fC (.int 4)) (fNil)))) (fNil))) (gNm 3) (fSeq (fSet 4 (fBin gIx (fVar 1) (fCall φt (fCons (fVar 0) (fCons (fCall gLen (fCons (fVar 1) (fNil))) (fNil))))))
  (fSeq (fPar2 5 6 (fCons (fCall φt (fCons (fVar 0) (fCons (fC (.int 4)) (fNil)))) (fCons (fCall φt (fCons (fVar 0) (fCons (fC (.int 2)) (fNil)))) (fNil))))
  (fDrop (fMt isL gAppend (fVar 2) (fCons (fTup (fCons (fVar 4) (fCons (fVar 5) (fCons (fVar 6) (fCons (fIf (fTest (fBin gEq (fVar 3) (fC (.int 0)))) (fCall φo (fCons (fVar 0) (fCons (fVar 1) (fCons (fVar 4) (fCons (fC (.int 2)) (fNil)))))) (fTup (fNil))) (fNil)))))) (fNil)))))))
  (bSmall2 φt φn)))
def SmallS (φ : Phi) : Prop := ∀ (t : Tap) (r : Sto), t.Wf → t.calls + 1000 ≤ 1000000 → Fl r → OkE nX (φ [.loc 0] (tapOb t :: r)) fun d s' => ∃ (c : Cnt) (t' : Tap), d = encC c ∧ CntOk c ∧ (∀ p ∈ c.piles, PilT p) ∧ c.piles.length ≤ 3 ∧ c.doubts.length ≤ 3 ∧
  s' = tapOb t' :: r ∧ t'.Wf
/-! ### the least, the greatest of a list -/
end Z

namespace Z
open PySem PySem.Spec L2

/-! ### the law's own look at any thing as an end -/
def bLettersA : Fn Ct := (fRet (fBin gEq (fVal (fLc (fSrcS (fVar 0)) [1] (gNm 1) (fTest (fBin gNotIn (fVar 1) (fC (.str (Str.ofString "abcdefghijklmnopqrstuvwxyz"))))) (fVar 1))) (fVal (fLst (fNil)))))
def bWordA (bl : Fn Ct) : Fn Ct :=
  fSeq (fIfS (fOrT (fNotT (fTest (fIsi "str" (fVar 0)))) (fOrT (fTest (fBin gLt (fCall gLen (fCons (fVar 0) (fNil))) (fC (.int 1)))) (fTest (fBin gGt (fCall gLen (fCons (fVar 0) (fNil))) (fC (.int 8)))))) (fRet (fC (.bl false))) (fNop))
  bl
/-- a pair of a word and a number -/
def laidD : Dv → Bool
  | .tup [x, y] => isWordD x && isNumD y
  | _ => false
def wordsD : Dv → Bool
  | .tup ws => ws.all isWordD
  | _ => false
/-- an end by kind -/
def shapedD : Dv → Bool
  | .tup [.tup ps, b] => ps.all laidD && wordsD b
  | _ => false
def bLaidA (φw φn : Phi) : Fn Ct := (fIfS (fOrT (fNotT (fTest (fIsi "tuple" (fVar 1)))) (fOrT (fTest (fBin gNe (fCall gLen (fCons (fVar 1) (fNil))) (fC (.int 2)))) (fOrT (fNotT (fTest (fCall φw (fCons (fBin gIx (fVar 1) (fC (.int 0))) (fNil))))) (fNotT (fTest (fCall φn (fCons (fBin gIx (fVar 1) (fC (.int 1))) (fNil)))))))) (fRet (fC (.bl false))) (fNop))
def bShapedW (φw : Phi) : Fn Ct := (fRet (fAnd (fIsi "tuple" (fBin gIx (fVar 0) (fC (.int 1)))) (fBin gEq (fVal (fLc (fSrc (fBin gIx (fVar 0) (fC (.int 1)))) [2] (gNm 2) (fNotT (fTest (fCall φw (fCons (fVar 2) (fNil))))) (fVar 2))) (fVal (fLst (fNil))))))
def bShapedA (bl bw : Fn Ct) : Fn Ct :=
  fSeq (fIfS (fOrT (fNotT (fTest (fIsi "tuple" (fVar 0)))) (fOrT (fTest (fBin gNe (fCall gLen (fCons (fVar 0) (fNil))) (fC (.int 2)))) (fNotT (fTest (fIsi "tuple" (fBin gIx (fVar 0) (fC (.int 0)))))))) (fRet (fC (.bl false))) (fNop))
  (fSeq (fFor (fSrc (fBin gIx (fVar 0) (fC (.int 0)))) (gNm 1) bl)
  bw)
end Z

namespace Z
open PySem PySem.Spec L2

/-! ### what is amiss first in an end -/
def PileFine (p : Pil) (x : Str × Int) : Prop := (x.1 = p.name ∨ x.1 ∈ p.others) ∧ p.least ≤ x.2 ∧ x.2 ≤ p.many + p.slip
def FineTo (c : Cnt) (laid : List (Str × Int)) (k : Nat) : Prop := ∀ (j : Nat) (x : Str × Int) (p : Pil), j < k → laid[j]? = some x → c.piles[j]? = some p → PileFine p x
def GivenTo (c : Cnt) (ds : List Str) (k : Nat) : Prop := ∀ (j : Nat) (x : Str) (d : List Str), j < k → ds[j]? = some x → c.doubts[j]? = some d → x ∈ d
inductive FaultR (c : Cnt) (laid : List (Str × Int)) (ds : List Str) : Option (Str × Int) → Prop
  | piles (h : laid.length ≠ c.piles.length) : FaultR c laid ds (some (Str.ofString "piles", -1))
  | name (k : Nat) (x : Str × Int) (p : Pil) (h : laid.length = c.piles.length) (hb : FineTo c laid k) (hx : laid[k]? = some x) (hp : c.piles[k]? = some p) (hn : ¬ (x.1 = p.name ∨ x.1 ∈ p.others)) : FaultR c laid ds (some (Str.ofString "name", k))
  | number (k : Nat) (x : Str × Int) (p : Pil) (h : laid.length = c.piles.length) (hb : FineTo c laid k) (hx : laid[k]? = some x) (hp : c.piles[k]? = some p) (hn : x.1 = p.name ∨ x.1 ∈ p.others) (hm : ¬ (p.least ≤ x.2 ∧ x.2 ≤ p.many + p.slip)) : FaultR c laid ds (some (Str.ofString "number", k))
  | doubts (h : laid.length = c.piles.length) (hb : FineTo c laid laid.length) (hd : ds.length ≠ c.doubts.length) : FaultR c laid ds (some (Str.ofString "doubts", -1))
  | given (k : Nat) (x : Str) (d : List Str) (h : laid.length = c.piles.length) (hb : FineTo c laid laid.length) (hd : ds.length = c.doubts.length) (hg : GivenTo c ds k) (hx : ds[k]? = some x) (hq : c.doubts[k]? = some d) (hn : x ∉ d) : FaultR c laid ds (some (Str.ofString "given", k))
  | none (h : laid.length = c.piles.length) (hb : FineTo c laid laid.length) (hd : ds.length = c.doubts.length) (hg : GivenTo c ds ds.length) : FaultR c laid ds none
theorem fineTo_lt {c : Cnt} {laid : List (Str × Int)} {i k : Nat} {x : Str × Int} {p : Pil} (h : FineTo c laid i) (hx : laid[k]? = some x) (hp : c.piles[k]? = some p) (hn : ¬ PileFine p x) : i ≤ k :=
  Nat.le_of_not_lt fun hl => hn (h k x p hl hx hp)
theorem givenTo_lt {c : Cnt} {ds : List Str} {i k : Nat} {x : Str} {d : List Str} (h : GivenTo c ds i) (hx : ds[k]? = some x) (hp : c.doubts[k]? = some d) (hn : x ∉ d) : i ≤ k :=
  Nat.le_of_not_lt fun hl => hn (h k x d hl hx hp)
/-- the place of the first pile amiss, by its word -/
theorem FaultR.one {c : Cnt} {laid : List (Str × Int)} {ds : List Str} {o o' : Option (Str × Int)} (h : FaultR c laid ds o) (h' : FaultR c laid ds o') : o = o' := by
  have lt : ∀ {k : Nat} {x : Str × Int}, laid[k]? = some x → k < laid.length := fun hx => (List.getElem?_eq_some_iff.mp hx).1
  have ltd : ∀ {k : Nat} {x : Str}, ds[k]? = some x → k < ds.length := fun hx => (List.getElem?_eq_some_iff.mp hx).1
  cases h with
  | piles h1 => cases h' <;> first | rfl | (exfalso; exact h1 ‹_›)
  | name k x p h1 hb hx hp hn =>
    have bad : ¬ PileFine p x := fun z => hn z.1
    have := lt hx
    cases h' with
    | piles h2 => exact absurd h1 h2
    | name k' x' p' h2 hb' hx' hp' hn' =>
      have e : k = k' := Nat.le_antisymm (fineTo_lt hb hx' hp' fun z => hn' z.1) (fineTo_lt hb' hx hp bad)
      rw [e]
    | number k' x' p' h2 hb' hx' hp' hn' hm' =>
      have e : k = k' := Nat.le_antisymm (fineTo_lt hb hx' hp' fun z => hm' z.2) (fineTo_lt hb' hx hp bad)
      subst e
      rw [hx] at hx'; rw [hp] at hp'; cases hx'; cases hp'
      exact absurd hn' hn
    | doubts h2 hb' => have := fineTo_lt hb' hx hp bad; omega
    | given k' x' d' h2 hb' => have := fineTo_lt hb' hx hp bad; omega
    | none h2 hb' => have := fineTo_lt hb' hx hp bad; omega
  | number k x p h1 hb hx hp hn hm =>
    have bad : ¬ PileFine p x := fun z => hm z.2
    have := lt hx
    cases h' with
    | piles h2 => exact absurd h1 h2
    | name k' x' p' h2 hb' hx' hp' hn' =>
      have e : k = k' := Nat.le_antisymm (fineTo_lt hb hx' hp' fun z => hn' z.1) (fineTo_lt hb' hx hp bad)
      subst e
      rw [hx] at hx'; rw [hp] at hp'; cases hx'; cases hp'
      exact absurd hn hn'
    | number k' x' p' h2 hb' hx' hp' hn' hm' =>
      have e : k = k' := Nat.le_antisymm (fineTo_lt hb hx' hp' fun z => hm' z.2) (fineTo_lt hb' hx hp bad)
      rw [e]
    | doubts h2 hb' => have := fineTo_lt hb' hx hp bad; omega
    | given k' x' d' h2 hb' => have := fineTo_lt hb' hx hp bad; omega
    | none h2 hb' => have := fineTo_lt hb' hx hp bad; omega
  | doubts h1 hb hd =>
    cases h' with
    | piles h2 => exact absurd h1 h2
    | name k' x' p' h2 hb' hx' hp' hn' => have := fineTo_lt hb hx' hp' fun z => hn' z.1; have := lt hx'; omega
    | number k' x' p' h2 hb' hx' hp' hn' hm' => have := fineTo_lt hb hx' hp' fun z => hm' z.2; have := lt hx'; omega
    | doubts => rfl
    | given k' x' d' h2 hb' hd' => exact absurd hd' hd
    | none h2 hb' hd' => exact absurd hd' hd
  | given k x d h1 hb hd hg hx hq hn =>
    cases h' with
    | piles h2 => exact absurd h1 h2
    | name k' x' p' h2 hb' hx' hp' hn' => have := fineTo_lt hb hx' hp' fun z => hn' z.1; have := lt hx'; omega
    | number k' x' p' h2 hb' hx' hp' hn' hm' => have := fineTo_lt hb hx' hp' fun z => hm' z.2; have := lt hx'; omega
    | doubts h2 hb' hd' => exact absurd hd hd'
    | given k' x' d' h2 hb' hd' hg' hx' hq' hn' =>
      have e : k = k' := Nat.le_antisymm (givenTo_lt hg hx' hq' hn') (givenTo_lt hg' hx hq hn)
      rw [e]
    | none h2 hb' hd' hg' => have := givenTo_lt hg' hx hq hn; have := ltd hx; omega
  | none h1 hb hd hg =>
    cases h' with
    | piles h2 => exact absurd h1 h2
    | name k' x' p' h2 hb' hx' hp' hn' => have := fineTo_lt hb hx' hp' fun z => hn' z.1; have := lt hx'; omega
    | number k' x' p' h2 hb' hx' hp' hn' hm' => have := fineTo_lt hb hx' hp' fun z => hm' z.2; have := lt hx'; omega
    | doubts h2 hb' hd' => exact absurd hd hd'
    | given k' x' d' h2 hb' hd' hg' hx' hq' hn' => have := givenTo_lt hg hx' hq' hn'; have := ltd hx'; omega
    | none => rfl
def encF : Option (Str × Int) → Dv
  | none => .non
  | some (w, k) => .tup [.str w, .int k]
/-! ### the law's walk -/
def bFaultAp : Fn Ct := (fSeq (fAsg (fBin gIx (fBin gIx (fVar 0) (fC (.int 1))) (fVar 4)) (gTp 4 (gsCons (gNm 5) (gsCons (gNm 6) (gsCons (gNm 7) (gsCons (gNm 8) (gsNil)))))))
  (fSeq (fIfS (fTest (fBin gNotIn (fBin gIx (fBin gIx (fVar 2) (fVar 4)) (fC (.int 0))) (fBin gAdd (fTup (fCons (fVar 5) (fNil))) (fVar 8)))) (fRet (fTup (fCons (fC (.str (Str.ofString "name"))) (fCons (fVar 4) (fNil))))) (fNop))
  (fIfS (fOrT (fTest (fBin gLt (fBin gIx (fBin gIx (fVar 2) (fVar 4)) (fC (.int 1))) (fC (.int 0)))) (fOrT (fTest (fBin gLt (fBin gIx (fBin gIx (fVar 2) (fVar 4)) (fC (.int 1))) (fBin gSub (fVar 6) (fVar 7)))) (fTest (fBin gGt (fBin gIx (fBin gIx (fVar 2) (fVar 4)) (fC (.int 1))) (fBin gAdd (fVar 6) (fVar 7)))))) (fRet (fTup (fCons (fC (.str (Str.ofString "number"))) (fCons (fVar 4) (fNil))))) (fNop))))
def bFaultAd : Fn Ct :=
  (fSeq (fIfS (fTest (fBin gNe (fCall gLen (fCons (fVar 3) (fNil))) (fCall gLen (fCons (fBin gIx (fVar 0) (fC (.int 2))) (fNil))))) (fRet (fTup (fCons (fC (.str (Str.ofString "doubts"))) (fCons (fUn gNeg (fC (.int 1))) (fNil))))) (fNop))
  (fSeq (fSet 9 (fVal (fLc (fRng1 (fCons (fCall gLen (fCons (fVar 3) (fNil))) (fNil))) [4] (gNm 4) (fTest (fBin gNotIn (fBin gIx (fVar 3) (fVar 4)) (fBin gIx (fBin gIx (fVar 0) (fC (.int 2))) (fVar 4)))) (fVar 4))))
  (fRet (fIf (fTest (fBin gNe (fVar 9) (fVal (fLst (fNil))))) (fTup (fCons (fC (.str (Str.ofString "given"))) (fCons (fBin gIx (fVar 9) (fC (.int 0))) (fNil)))) (fC .non)))))
def bFaultA (bp bd : Fn Ct) : Fn Ct :=
  fSeq (fAsg (fVar 1) (gTp 2 (gsCons (gNm 2) (gsCons (gNm 3) (gsNil)))))
  (fSeq (fIfS (fTest (fBin gNe (fCall gLen (fCons (fVar 2) (fNil))) (fCall gLen (fCons (fBin gIx (fVar 0) (fC (.int 1))) (fNil))))) (fRet (fTup (fCons (fC (.str (Str.ofString "piles"))) (fCons (fUn gNeg (fC (.int 1))) (fNil))))) (fNop))
  (fSeq (fFor (fRng1 (fCons (fCall gLen (fCons (fVar 2) (fNil))) (fNil))) (gNm 4) bp)
  bd))
def FaultS2 (φ : Phi) : Prop := ∀ (c : Cnt) (laid : List (Str × Int)) (ds : List Str) (s : Sto) (T : Dv → Sto → Prop), CntOk c → laid.length ≤ 100000 → ds.length ≤ 100000 → (∀ o, FaultR c laid ds o → T (encF o) s) → OkE nX (φ [encC c, encE laid ds] s) T
end Z

namespace Z
open PySem PySem.Spec L2

/-! ### ends as things -/
theorem wbs_le {α : Type} {f : α → Dv} {n : Nat} : ∀ {xs : List α}, (∀ x ∈ xs, wb (f x) ≤ n) → wbs (xs.map f) ≤ xs.length * (n + 1)
  | [], _ => by simp [wbs]
  | x :: xs, h => by
    have h0 := h x List.mem_cons_self
    have ih := wbs_le (xs := xs) fun y hy => h y (List.mem_cons_of_mem _ hy)
    rw [List.map_cons, wbs, List.length_cons, Nat.add_mul]
    omega
/-! ### spans, where a name may be strange -/
def bAtX : Fn Ct :=
  fSeq (fIfS (fSure (fTest (fBin gNotIn (fVar 1) (fVar 0)))) (fRaise 5 (fSure (fCons (fVar 1) (fNil)))) (fNop))
  (fSure (fRet (fIndex (fVar 0) (fCons (fVar 1) (fNil)))))
def AtX (φ : Phi) : Prop := ∀ (lots : List Str) (z : Str) (s : Sto) (Ex T : Dv → Sto → Prop), Fl s → (z ∈ lots → ∀ k : Nat, lots[k]? = some z → T (.int (k : Nat)) s) → (z ∉ lots → Ex (.xn 0 0 5 [.str z]) s) → OkE Ex (φ [encS lots, .str z] s) T
theorem atX_spec : AtX (fDefX 2 2 bAtX) := by
  intro lots z s Ex T hf h hx
  rw [ok_defX]
  refine ⟨rfl, ?_⟩
  unfold bAtX
  by_cases hz : z ∈ lots
  · simp only [ok_ok, kDrop_ap, kRet_ap, kSet_ap, kCons2_ap, kCons_ap, kTup_ap, kLst_ap, kVal_ap, kNew_ap, kBin2_ap, kBin_ap, kUn_ap, kCall_ap, kCallL_ap, kNotT_ap, kAndT_ap, kOrT_ap, kIf_ap, kIfS_ap, kAnd_ap, kOr_ap, kNot_ap, kMt2_ap, kMt_ap, kPut4_ap, kPut3_ap, kPut2_ap, kPut_ap, kExt2_ap, kExt_ap, kAsg2_ap, kAsg_ap, kFor_ap, kLc_ap, kSl3_ap, kSl2_ap, kSl_ap, kGs_ap, ok_seq, sq_next, sq_ret, sq_brk, sq_cont, ok_nop, ok_brk, ok_cont, ok_drop, ok_ret, ok_retN, ok_set, ok_var0, ok_varS, ok_c, ok_nil, ok_cons, ok_tup, ok_lst, ok_val, ok_new, ok_bin, ok_un, ok_call, ok_callL, ok_test, tst_bl, ok_notT, ok_andT, ok_orT, ok_if, ok_ifS, ok_and, ok_or, ok_not, ok_mt, ok_put, ok_extend, pr2_mk, ok_par2, ok_asg, ok_for, ok_lc, ok_yes, ok_noPart, prt_int, ok_part, ok_sl, ok_gNm, ok_gTp, ok_gsN, ok_gsC, rg1_mk, rg2_mk, ok_rng1, ok_rng2, srcK_tup, srcK_ls, ok_src, finK_next, finK_ret, List.set_cons_zero, List.set_cons_succ, List.map_cons, List.map_nil, List.replicate, List.cons_append, List.nil_append, List.length_cons, List.length_nil, Bool.false_eq_true, eq_self, if_true, if_false, Nat.zero_add, okX_non, okX_bl, okX_int, okX_str, okX_tup, okX_ls, okX_loc, true_and, ok_sure, notin_strs, decide_eq_true hz, Bool.not_true]
    obtain ⟨k, h1, h2⟩ := index_tup (s := s) hz
    refine OkE.of (show fIndex _ _ _ _ = _ from h1) ?_
    simp only [ok_ok, kDrop_ap, kRet_ap, kSet_ap, kCons2_ap, kCons_ap, kTup_ap, kLst_ap, kVal_ap, kNew_ap, kBin2_ap, kBin_ap, kUn_ap, kCall_ap, kCallL_ap, kNotT_ap, kAndT_ap, kOrT_ap, kIf_ap, kIfS_ap, kAnd_ap, kOr_ap, kNot_ap, kMt2_ap, kMt_ap, kPut4_ap, kPut3_ap, kPut2_ap, kPut_ap, kExt2_ap, kExt_ap, kAsg2_ap, kAsg_ap, kFor_ap, kLc_ap, kSl3_ap, kSl2_ap, kSl_ap, kGs_ap, ok_seq, sq_next, sq_ret, sq_brk, sq_cont, ok_nop, ok_brk, ok_cont, ok_drop, ok_ret, ok_retN, ok_set, ok_var0, ok_varS, ok_c, ok_nil, ok_cons, ok_tup, ok_lst, ok_val, ok_new, ok_bin, ok_un, ok_call, ok_callL, ok_test, tst_bl, ok_notT, ok_andT, ok_orT, ok_if, ok_ifS, ok_and, ok_or, ok_not, ok_mt, ok_put, ok_extend, pr2_mk, ok_par2, ok_asg, ok_for, ok_lc, ok_yes, ok_noPart, prt_int, ok_part, ok_sl, ok_gNm, ok_gTp, ok_gsN, ok_gsC, rg1_mk, rg2_mk, ok_rng1, ok_rng2, srcK_tup, srcK_ls, ok_src, finK_next, finK_ret, List.set_cons_zero, List.set_cons_succ, List.map_cons, List.map_nil, List.replicate, List.cons_append, List.nil_append, List.length_cons, List.length_nil, Bool.false_eq_true, eq_self, if_true, if_false, Nat.zero_add, okX_non, okX_bl, okX_int, okX_str, okX_tup, okX_ls, okX_loc, true_and]
    exact OkE.up (fin_any (fun n => nofun) (h hz k h2))
  · simp only [ok_ok, kDrop_ap, kRet_ap, kSet_ap, kCons2_ap, kCons_ap, kTup_ap, kLst_ap, kVal_ap, kNew_ap, kBin2_ap, kBin_ap, kUn_ap, kCall_ap, kCallL_ap, kNotT_ap, kAndT_ap, kOrT_ap, kIf_ap, kIfS_ap, kAnd_ap, kOr_ap, kNot_ap, kMt2_ap, kMt_ap, kPut4_ap, kPut3_ap, kPut2_ap, kPut_ap, kExt2_ap, kExt_ap, kAsg2_ap, kAsg_ap, kFor_ap, kLc_ap, kSl3_ap, kSl2_ap, kSl_ap, kGs_ap, ok_seq, sq_next, sq_ret, sq_brk, sq_cont, ok_nop, ok_brk, ok_cont, ok_drop, ok_ret, ok_retN, ok_set, ok_var0, ok_varS, ok_c, ok_nil, ok_cons, ok_tup, ok_lst, ok_val, ok_new, ok_bin, ok_un, ok_call, ok_callL, ok_test, tst_bl, ok_notT, ok_andT, ok_orT, ok_if, ok_ifS, ok_and, ok_or, ok_not, ok_mt, ok_put, ok_extend, pr2_mk, ok_par2, ok_asg, ok_for, ok_lc, ok_yes, ok_noPart, prt_int, ok_part, ok_sl, ok_gNm, ok_gTp, ok_gsN, ok_gsC, rg1_mk, rg2_mk, ok_rng1, ok_rng2, srcK_tup, srcK_ls, ok_src, finK_next, finK_ret, List.set_cons_zero, List.set_cons_succ, List.map_cons, List.map_nil, List.replicate, List.cons_append, List.nil_append, List.length_cons, List.length_nil, Bool.false_eq_true, eq_self, if_true, if_false, Nat.zero_add, okX_non, okX_bl, okX_int, okX_str, okX_tup, okX_ls, okX_loc, true_and, ok_sure, notin_strs, decide_eq_false hz, Bool.not_false, ok_raise, kRaise_ap]
    exact ⟨rfl, kOut_mk hf rfl (hx hz)⟩
noncomputable def bSpanX (φa φl φg φy : Phi) : Fn Ct :=
  fSeq (fSet 2 (fCall φa (fSure (fCons (fBin gIx (fVar 0) (fC (.int 0))) (fCons (fVar 1) (fNil))))))
  (fSure (fSeq (fPar2 3 4 (fCons (fCall φl (fCons (fVar 0) (fCons (fVar 1) (fNil)))) (fCons (fCall φg (fCons (fVar 0) (fCons (fVar 1) (fNil)))) (fNil))))
  (fRet (fTup (fCons (fBin gIx (fCall φy (fCons (fVar 0) (fCons (fVar 3) (fNil)))) (fVar 2)) (fCons (fVar 3) (fCons (fBin gIx (fCall φy (fCons (fVar 0) (fCons (fVar 4) (fNil)))) (fVar 2)) (fCons (fVar 4) (fNil)))))))))
def SpanX (φ : Phi) : Prop := ∀ (c : Cnt) (z : Str) (s : Sto) (Ex T : Dv → Sto → Prop), CntOk c → Fl s → (z ∈ c.lots → T (encSp (lowSum c z) (lowL c z) (lowD c z) (highSum c z) (highL c z) (highD c z)) s) → (z ∉ c.lots → Ex (.xn 0 0 5 [.str z]) s) → OkE Ex (φ [encC c, .str z] s) T
/-! ### the law's own bounds -/
def bBoundsP : Fn Ct := (fSeq (fIfS (fTest (fBin gEq (fVar 4) (fVar 1))) (fSeq (fSet 3 (fBin gAdd (fBin gAdd (fVar 3) (fVar 5)) (fVar 6)))
  (fSet 2 (fBin gAdd (fVar 2) (fIf (fAndT (fTest (fBin gEq (fVar 7) (fTup (fNil)))) (fTest (fBin gGt (fVar 5) (fVar 6)))) (fBin gSub (fVar 5) (fVar 6)) (fC (.int 0)))))) (fNop))
  (fIfS (fTest (fBin gIn (fVar 1) (fVar 7))) (fSet 3 (fBin gAdd (fBin gAdd (fVar 3) (fVar 5)) (fVar 6))) (fNop)))
def bBounds (bp : Fn Ct) : Fn Ct :=
  fSeq (fAsg (fTup (fCons (fC (.int 0)) (fCons (fC (.int 0)) (fNil)))) (gTp 2 (gsCons (gNm 2) (gsCons (gNm 3) (gsNil)))))
  (fSeq (fFor (fSrc (fBin gIx (fVar 0) (fC (.int 1)))) (gTp 4 (gsCons (gNm 4) (gsCons (gNm 5) (gsCons (gNm 6) (gsCons (gNm 7) (gsNil)))))) bp)
  (fSeq (fFor (fSrc (fBin gIx (fVar 0) (fC (.int 2)))) (gNm 8) (fSeq (fSet 3 (fBin gAdd (fVar 3) (fCall gToInt (fCons (fBin gIn (fVar 1) (fVar 8)) (fNil)))))
  (fSet 2 (fBin gAdd (fVar 2) (fCall gToInt (fCons (fBin gEq (fVar 8) (fTup (fCons (fVar 1) (fNil)))) (fNil)))))))
  (fRet (fTup (fCons (fVar 2) (fCons (fVar 3) (fNil)))))))
def lowP1 (z : Str) (p : Pil) : Int := if p.name = z ∧ p.others = [] then p.least else 0
def highP1 (z : Str) (p : Pil) : Int := if p.name = z ∨ z ∈ p.others then p.many + p.slip else 0
def BoundsS (φ : Phi) : Prop := ∀ (c : Cnt) (z : Str) (s : Sto) (T : Dv → Sto → Prop), CntOk c → PyData.strOk z = true → T (.tup [.int (lowSum c z), .int (highSum c z)]) s → OkE nX (φ [encC c, .str z] s) T
end Z

namespace Z
open PySem PySem.Spec L2

/-! ### sorted by a key of two numbers -/
theorem keys_runQ {α : Type} {j : Nat} {te : Fn Dv} {env : En} {s : Sto} {enc kd : α → Dv} : ∀ {xs : List α}, (∀ x ∈ xs, OkE nX (te (env.set j (some (enc x))) s) fun y s' => y = kd x ∧ s' = s) → keysZ j te env (xs.map enc) s = .ok (xs.map kd) s
  | [], _ => rfl
  | x :: r, h => by
    obtain ⟨y, s1, e, rfl, rfl⟩ := (h x List.mem_cons_self).get
    show ((te (env.set j (some (enc x))) s1).bind fun y s1 => (keysZ j te env (r.map enc) s1).bind fun ys s2 => Rs.ok (y :: ys) s2) = _
    rw [e]
    show ((keysZ j te env (r.map enc) s1).bind fun ys s2 => Rs.ok (kd x :: ys) s2) = _
    rw [keys_runQ fun y hy => h y (List.mem_cons_of_mem _ hy)]; rfl
theorem ok_sortKQ {α : Type} {j : Nat} {te : Fn Dv} {fs : Fn (List Dv)} {env : En} {s : Sto} {L : List Dv → Sto → Prop} {xs : List α} {enc kd : α → Dv} {g : α → PyData} (hs : OkE nX (fs env s) fun ds s1 => ∃ d, ds = [d] ∧ seqOf s d = some (xs.map enc) ∧ s1 = s) (hk : ∀ x ∈ xs, OkE nX (te (env.set j (some (enc x))) s) fun y s' => y = kd x ∧ s' = s)
    (hp : ∀ x ∈ xs, pyOf s (kd x) = some (g x)) (ha : alikeB (xs.map g) = true) (hb : sortB (xs.map g) = true) (hz : xs.length ≤ 16777216) (hL : L ((xs.mergeSort (PySem.W.dataLe false g)).map enc) s) : OkE nX (fSortK j te fs env s) L := by
  obtain ⟨ds, s1, e, d, rfl, hd, rfl⟩ := hs.get
  unfold fSortK
  rw [e]
  show OkE nX (match seqOf s1 d with | some ds => Rs.iff (decide (ds.length ≤ 16777216)) ((keysZ j te env ds s1).bind fun ks s2 => match ks.mapM (pyOf s2) with | some ps => Rs.iff (alikeB ps && sortB ps && ds.length == ps.length) (Rs.ok (sortD ds ps) s2) | none => .bad) | none => .bad) L
  rw [hd]
  refine ok_iff.mpr ⟨decide_eq_true (by rw [List.length_map]; exact hz), ?_⟩
  rw [keys_runQ hk]
  show OkE nX (match (xs.map kd).mapM (pyOf s1) with | some ps => Rs.iff (alikeB ps && sortB ps && (xs.map enc).length == ps.length) (Rs.ok (sortD (xs.map enc) ps) s1) | none => .bad) L
  rw [mapM_map hp]
  refine ok_iff.mpr ⟨by rw [ha, hb, List.length_map, List.length_map]; simp, ?_⟩
  rw [sortD_map]
  exact hL
theorem alike_iiQ {α : Type} (x y : α → Int) (xs : List α) : alikeB (xs.map fun a => PyData.tuple [.int (x a), .int (y a)]) = true := by
  refine List.all_eq_true.mpr fun d hd => List.all_eq_true.mpr fun e he => ?_
  obtain ⟨a, _, rfl⟩ := List.mem_map.mp hd
  obtain ⟨b, _, rfl⟩ := List.mem_map.mp he
  simp [PySem.W.alike, PySem.W.alikeAll]
theorem sort_iiQ {α : Type} (x y : α → Int) (xs : List α) : sortB (xs.map fun a => PyData.tuple [.int (x a), .int (y a)]) = true := by
  refine Bool.or_eq_true_iff.mpr (.inl (List.all_eq_true.mpr fun d hd => ?_))
  obtain ⟨a, _, rfl⟩ := List.mem_map.mp hd
  rfl
/-! ### the order of names -/
def plN (xs : List Str) (z : Str) : Nat := (xs.findIdx? (· == z)).getD 0
theorem index_tupN {xs : List Str} {z : Str} {s : Sto} (h : z ∈ xs) : gIndexT (.tup (xs.map .str)) [.str z] s = .ok (.int (plN xs z : Nat)) s ∧ xs[plN xs z]? = some z := by
  cases e : xs.findIdx? (· == z) with
  | none =>
    have := List.findIdx?_eq_none_iff.mp e z h
    simp at this
  | some k =>
    obtain ⟨h1, h2, _⟩ := List.findIdx?_eq_some_iff_getElem.mp e
    have ek : plN xs z = k := by unfold plN; rw [e]; rfl
    rw [ek]
    refine ⟨?_, by rw [List.getElem?_eq_getElem h1, beq_iff_eq.mp h2]⟩
    show (match strsOf (xs.map .str) with | some zs => (match zs.findIdx? (· == z) with | some j => Rs.ok (Dv.int (j : Nat)) s | none => .bad) | none => .bad) = _
    rw [strsOf_map]
    show (match xs.findIdx? (· == z) with | some j => Rs.ok (Dv.int (j : Nat)) s | none => .bad) = _
    rw [e]
theorem ok_indexN {fo : Fn Dv} {fs : Fn (List Dv)} {env : En} {s : Sto} {T : Dv → Sto → Prop} {xs : List Str} {z : Str} (ho : fo env s = .ok (encS xs) s) (hs : fs env s = .ok [.str z] s) (hz : z ∈ xs) (h : T (.int (plN xs z : Nat)) s) : OkE nX (fIndex fo fs env s) T := by
  unfold fIndex
  rw [ho]
  show OkE nX ((fs env s).bind fun xs' s2 => gIndexT (encS xs) xs' s2) T
  rw [hs]
  show OkE nX (gIndexT (.tup (xs.map .str)) [.str z] s) T
  rw [(index_tupN hz).1]
  exact h
theorem plN_inj {xs : List Str} {x y : Str} (hx : x ∈ xs) (hy : y ∈ xs) (h : plN xs x = plN xs y) : x = y := by
  have h1 := (index_tupN (s := []) hx).2
  have h2 := (index_tupN (s := []) hy).2
  rw [h] at h1
  rw [h1] at h2
  exact Option.some.inj h2
/-- ahead: more, or as many and an earlier place -/
def AhR (xs : List Str) (v : Str → Int) (a b : Str) : Prop := v b < v a ∨ (v b = v a ∧ plN xs a < plN xs b)
theorem AhR.asymm {xs : List Str} {v : Str → Int} {a b : Str} (h : AhR xs v a b) (h2 : AhR xs v b a) : False := by
  unfold AhR at *; omega
theorem perm_uniq {α : Type} {R : α → α → Prop} (has : ∀ {a b}, R a b → R b a → False) : ∀ {l m : List α}, l.Perm m → l.Pairwise R → m.Pairwise R → l = m
  | [], m, h, _, _ => (List.Perm.nil_eq h)
  | a :: l, [], h, _, _ => absurd h.length_eq (by simp)
  | a :: l, b :: m, h, h1, h2 => by
    have e : a = b := by
      rcases List.mem_cons.mp (h.subset List.mem_cons_self) with e | e
      · exact e
      · rcases List.mem_cons.mp (h.symm.subset (List.mem_cons_self (a := b))) with e2 | e2
        · exact e2.symm
        · exact (has ((List.pairwise_cons.mp h1).1 b e2) ((List.pairwise_cons.mp h2).1 a e)).elim
    subst e
    rw [perm_uniq has (List.Perm.cons_inv h) (List.pairwise_cons.mp h1).2 (List.pairwise_cons.mp h2).2]
def ordS (xs : List Str) (v : Str → Int) : List Str := xs.mergeSort (PySem.W.dataLe false fun n => .tuple [.int (0 - v n), .int (plN xs n : Nat)])
theorem ordS_perm (xs : List Str) (v : Str → Int) : (ordS xs v).Perm xs := List.mergeSort_perm _ _
theorem ordS_sorted {xs : List Str} {v : Str → Int} (hn : xs.Nodup) : (ordS xs v).Pairwise (AhR xs v) := by
  have hp := ordS_perm xs v
  have h1 : (ordS xs v).Pairwise fun a b => v b < v a ∨ (v b = v a ∧ plN xs a ≤ plN xs b) := by
    unfold ordS
    rw [PySem.W.dataLe_ii]
    refine (List.pairwise_mergeSort (fun a b c h1 h2 => ?_) (fun a b => ?_) xs).imp fun {a b} h => ?_
    · rw [decide_eq_true_eq] at *; omega
    · rw [Bool.or_eq_true, decide_eq_true_eq, decide_eq_true_eq]; omega
    · rw [decide_eq_true_eq] at h; omega
  have h2 : (ordS xs v).Nodup := hp.nodup_iff.mpr hn
  have h3 := List.pairwise_iff_getElem.mp h1
  refine List.pairwise_iff_getElem.mpr fun i j hi hj hij => ?_
  have h4 := h3 i j hi hj hij
  have m1 := hp.subset (List.getElem_mem hi)
  have m2 := hp.subset (List.getElem_mem hj)
  have hne : (ordS xs v)[i] ≠ (ordS xs v)[j] := fun e => by
    have := (List.getElem_inj h2).mp e
    omega
  rcases h4 with h | ⟨h, h'⟩
  · exact .inl h
  · refine .inr ⟨h, ?_⟩
    rcases Nat.lt_or_eq_of_le h' with q | q
    · exact q
    · exact absurd (plN_inj m1 m2 q) hne
/-- put in -/
theorem ins_sorted {xs : List Str} {v : Str → Int} {l : List Str} {z : Str} (h : l.Pairwise (AhR xs v)) (hl : ∀ a ∈ l, plN xs a < plN xs z) : (l.take (l.filter fun a => decide (v a ≥ v z)).length ++ [z] ++ l.drop (l.filter fun a => decide (v a ≥ v z)).length).Pairwise (AhR xs v) := by
  have key : ∀ (l : List Str), l.Pairwise (AhR xs v) → l.take (l.filter fun a => decide (v a ≥ v z)).length = l.filter (fun a => decide (v a ≥ v z)) ∧ ∀ a ∈ l.drop (l.filter fun a => decide (v a ≥ v z)).length, v a < v z := by
    intro l
    induction l with
    | nil => intro _; exact ⟨rfl, fun a ha => by simp at ha⟩
    | cons b r ih =>
      intro hp
      obtain ⟨hb, hr⟩ := List.pairwise_cons.mp hp
      by_cases hv : v b ≥ v z
      · rw [List.filter_cons_of_pos (by simpa using hv), List.length_cons, List.take_succ_cons, List.drop_succ_cons]
        obtain ⟨i1, i2⟩ := ih hr
        exact ⟨by rw [i1], i2⟩
      · have hall : ∀ a ∈ b :: r, v a < v z := fun a ha => by
          rcases List.mem_cons.mp ha with e | e
          · rw [e]; omega
          · have := hb a e
            unfold AhR at this
            omega
        have hf : (b :: r).filter (fun a => decide (v a ≥ v z)) = [] := List.filter_eq_nil_iff.mpr fun a ha => by
          have := hall a ha
          simp; omega
        rw [hf]
        exact ⟨rfl, fun a ha => hall a (List.mem_of_mem_drop ha)⟩
  obtain ⟨k1, k2⟩ := key l h
  have ht : ∀ a ∈ l.take (l.filter fun a => decide (v a ≥ v z)).length, v z ≤ v a := fun a ha => by
    rw [k1] at ha
    have := (List.mem_filter.mp ha).2
    simpa using this
  have hd := k2
  generalize (l.filter fun a => decide (v a ≥ v z)).length = n at ht hd
  rw [List.append_assoc, List.pairwise_append]
  have hp2 : (l.take n ++ l.drop n).Pairwise (AhR xs v) := by rw [List.take_append_drop]; exact h
  rw [List.pairwise_append] at hp2
  refine ⟨hp2.1, ?_, ?_⟩
  · rw [List.singleton_append, List.pairwise_cons]
    exact ⟨fun b hb => .inl (hd b hb), hp2.2.1⟩
  · intro a ha b hb
    rcases List.mem_append.mp hb with e | e
    · rw [List.mem_singleton.mp e]
      have h1 := ht a ha
      have h2 := hl a (List.mem_of_mem_take ha)
      unfold AhR
      omega
    · exact hp2.2.2 a ha b e
end Z

namespace Z
open PySem PySem.Spec L2

def vT (lots : List Str) (ts : List Int) (x : Str) : Int := ts.getD (plN lots x) 0
theorem plN_lt {xs : List Str} {z : Str} (h : z ∈ xs) : plN xs z < xs.length := (List.getElem?_eq_some_iff.mp (index_tupN (s := []) h).2).1
theorem plN_at {xs : List Str} (hn : xs.Nodup) {i : Nat} {z : Str} (h : xs[i]? = some z) : plN xs z = i := by
  have hz := List.mem_of_getElem? h
  have h2 := (index_tupN (s := []) hz).2
  obtain ⟨a1, a2⟩ := List.getElem?_eq_some_iff.mp h
  obtain ⟨b1, b2⟩ := List.getElem?_eq_some_iff.mp h2
  exact (List.getElem_inj hn).mp (b2.trans a2.symm)
theorem ix_ts {lots : List Str} {ts : List Int} (hl : ts.length = lots.length) {x : Str} (hx : x ∈ lots) (s : Sto) : gIx (.tup (ts.map .int)) (.int (plN lots x : Nat)) s = .ok (.int (vT lots ts x)) s := by
  have hlt := plN_lt hx
  refine ix_tupN ?_
  unfold vT
  rw [List.getElem?_map, List.getElem?_eq_getElem (by omega), List.getD, List.getElem?_eq_getElem (by omega)]; rfl
def bOrdF : Fn Ct := fRet (fCall gTuple (fCons (fVal (fSortK 2 (fTup (fCons (fBin gSub (fC (.int 0)) (fBin gIx (fVar 1) (fIndex (fVar 0) (fCons (fVar 2) (fNil))))) (fCons (fIndex (fVar 0) (fCons (fVar 2) (fNil))) (fNil)))) (fCons (fVar 0) (fNil)))) (fNil)))
def OrdS (φ : Phi) : Prop := ∀ (lots : List Str) (ts : List Int) (s : Sto) (T : Dv → Sto → Prop), lots.length ≤ 1000 → ts.length = lots.length → T (encS (ordS lots (vT lots ts))) s → OkE nX (φ [encS lots, .tup (ts.map .int)] s) T
theorem ordF_spec : OrdS (fDef 2 3 bOrdF) := by
  intro lots ts s T hl ht hT
  rw [ok_def]
  refine ⟨rfl, ?_⟩
  unfold bOrdF
  simp only [ok_ok, kDrop_ap, kRet_ap, kSet_ap, kCons2_ap, kCons_ap, kTup_ap, kLst_ap, kVal_ap, kNew_ap, kBin2_ap, kBin_ap, kUn_ap, kCall_ap, kCallL_ap, kNotT_ap, kAndT_ap, kOrT_ap, kIf_ap, kIfS_ap, kAnd_ap, kOr_ap, kNot_ap, kMt2_ap, kMt_ap, kPut4_ap, kPut3_ap, kPut2_ap, kPut_ap, kExt2_ap, kExt_ap, kAsg2_ap, kAsg_ap, kFor_ap, kLc_ap, kSl3_ap, kSl2_ap, kSl_ap, kGs_ap, ok_seq, sq_next, sq_ret, sq_brk, sq_cont, ok_nop, ok_brk, ok_cont, ok_drop, ok_ret, ok_retN, ok_set, ok_var0, ok_varS, ok_c, ok_nil, ok_cons, ok_tup, ok_lst, ok_val, ok_new, ok_bin, ok_un, ok_call, ok_callL, ok_test, tst_bl, ok_notT, ok_andT, ok_orT, ok_if, ok_ifS, ok_and, ok_or, ok_not, ok_mt, ok_put, ok_extend, pr2_mk, ok_par2, ok_asg, ok_for, ok_lc, ok_yes, ok_noPart, prt_int, ok_part, ok_sl, ok_gNm, ok_gTp, ok_gsN, ok_gsC, rg1_mk, rg2_mk, ok_rng1, ok_rng2, srcK_tup, srcK_ls, ok_src, finK_next, finK_ret, List.set_cons_zero, List.set_cons_succ, List.map_cons, List.map_nil, List.replicate, List.cons_append, List.nil_append, List.length_cons, List.length_nil, Bool.false_eq_true, eq_self, if_true, if_false, Nat.zero_add, okX_non, okX_bl, okX_int, okX_str, okX_tup, okX_ls, okX_loc, true_and]
  refine ok_sortKQ (xs := lots) (enc := .str) (kd := fun n => .tup [.int (0 - vT lots ts n), .int (plN lots n : Nat)]) (g := fun n => .tuple [.int (0 - vT lots ts n), .int (plN lots n : Nat)])
    (by simp only [ok_ok, kDrop_ap, kRet_ap, kSet_ap, kCons2_ap, kCons_ap, kTup_ap, kLst_ap, kVal_ap, kNew_ap, kBin2_ap, kBin_ap, kUn_ap, kCall_ap, kCallL_ap, kNotT_ap, kAndT_ap, kOrT_ap, kIf_ap, kIfS_ap, kAnd_ap, kOr_ap, kNot_ap, kMt2_ap, kMt_ap, kPut4_ap, kPut3_ap, kPut2_ap, kPut_ap, kExt2_ap, kExt_ap, kAsg2_ap, kAsg_ap, kFor_ap, kLc_ap, kSl3_ap, kSl2_ap, kSl_ap, kGs_ap, ok_seq, sq_next, sq_ret, sq_brk, sq_cont, ok_nop, ok_brk, ok_cont, ok_drop, ok_ret, ok_retN, ok_set, ok_var0, ok_varS, ok_c, ok_nil, ok_cons, ok_tup, ok_lst, ok_val, ok_new, ok_bin, ok_un, ok_call, ok_callL, ok_test, tst_bl, ok_notT, ok_andT, ok_orT, ok_if, ok_ifS, ok_and, ok_or, ok_not, ok_mt, ok_put, ok_extend, pr2_mk, ok_par2, ok_asg, ok_for, ok_lc, ok_yes, ok_noPart, prt_int, ok_part, ok_sl, ok_gNm, ok_gTp, ok_gsN, ok_gsC, rg1_mk, rg2_mk, ok_rng1, ok_rng2, srcK_tup, srcK_ls, ok_src, finK_next, finK_ret, List.set_cons_zero, List.set_cons_succ, List.map_cons, List.map_nil, List.replicate, List.cons_append, List.nil_append, List.length_cons, List.length_nil, Bool.false_eq_true, eq_self, if_true, if_false, Nat.zero_add, okX_non, okX_bl, okX_int, okX_str, okX_tup, okX_ls, okX_loc, true_and]; first | exact ⟨_, rfl, rfl, trivial⟩ | exact ⟨_, rfl, rfl⟩ | exact ⟨_, rfl, rfl, rfl⟩) (fun n hn => ?_) (fun n _ => rfl) (alike_iiQ _ _ _) (sort_iiQ _ _ _) (by omega) ?_
  · simp only [ok_ok, kDrop_ap, kRet_ap, kSet_ap, kCons2_ap, kCons_ap, kTup_ap, kLst_ap, kVal_ap, kNew_ap, kBin2_ap, kBin_ap, kUn_ap, kCall_ap, kCallL_ap, kNotT_ap, kAndT_ap, kOrT_ap, kIf_ap, kIfS_ap, kAnd_ap, kOr_ap, kNot_ap, kMt2_ap, kMt_ap, kPut4_ap, kPut3_ap, kPut2_ap, kPut_ap, kExt2_ap, kExt_ap, kAsg2_ap, kAsg_ap, kFor_ap, kLc_ap, kSl3_ap, kSl2_ap, kSl_ap, kGs_ap, ok_seq, sq_next, sq_ret, sq_brk, sq_cont, ok_nop, ok_brk, ok_cont, ok_drop, ok_ret, ok_retN, ok_set, ok_var0, ok_varS, ok_c, ok_nil, ok_cons, ok_tup, ok_lst, ok_val, ok_new, ok_bin, ok_un, ok_call, ok_callL, ok_test, tst_bl, ok_notT, ok_andT, ok_orT, ok_if, ok_ifS, ok_and, ok_or, ok_not, ok_mt, ok_put, ok_extend, pr2_mk, ok_par2, ok_asg, ok_for, ok_lc, ok_yes, ok_noPart, prt_int, ok_part, ok_sl, ok_gNm, ok_gTp, ok_gsN, ok_gsC, rg1_mk, rg2_mk, ok_rng1, ok_rng2, srcK_tup, srcK_ls, ok_src, finK_next, finK_ret, List.set_cons_zero, List.set_cons_succ, List.map_cons, List.map_nil, List.replicate, List.cons_append, List.nil_append, List.length_cons, List.length_nil, Bool.false_eq_true, eq_self, if_true, if_false, Nat.zero_add, okX_non, okX_bl, okX_int, okX_str, okX_tup, okX_ls, okX_loc, true_and]
    refine ok_indexN (xs := lots) (z := n) rfl rfl hn ?_
    simp only [ok_ok, kDrop_ap, kRet_ap, kSet_ap, kCons2_ap, kCons_ap, kTup_ap, kLst_ap, kVal_ap, kNew_ap, kBin2_ap, kBin_ap, kUn_ap, kCall_ap, kCallL_ap, kNotT_ap, kAndT_ap, kOrT_ap, kIf_ap, kIfS_ap, kAnd_ap, kOr_ap, kNot_ap, kMt2_ap, kMt_ap, kPut4_ap, kPut3_ap, kPut2_ap, kPut_ap, kExt2_ap, kExt_ap, kAsg2_ap, kAsg_ap, kFor_ap, kLc_ap, kSl3_ap, kSl2_ap, kSl_ap, kGs_ap, ok_seq, sq_next, sq_ret, sq_brk, sq_cont, ok_nop, ok_brk, ok_cont, ok_drop, ok_ret, ok_retN, ok_set, ok_var0, ok_varS, ok_c, ok_nil, ok_cons, ok_tup, ok_lst, ok_val, ok_new, ok_bin, ok_un, ok_call, ok_callL, ok_test, tst_bl, ok_notT, ok_andT, ok_orT, ok_if, ok_ifS, ok_and, ok_or, ok_not, ok_mt, ok_put, ok_extend, pr2_mk, ok_par2, ok_asg, ok_for, ok_lc, ok_yes, ok_noPart, prt_int, ok_part, ok_sl, ok_gNm, ok_gTp, ok_gsN, ok_gsC, rg1_mk, rg2_mk, ok_rng1, ok_rng2, srcK_tup, srcK_ls, ok_src, finK_next, finK_ret, List.set_cons_zero, List.set_cons_succ, List.map_cons, List.map_nil, List.replicate, List.cons_append, List.nil_append, List.length_cons, List.length_nil, Bool.false_eq_true, eq_self, if_true, if_false, Nat.zero_add, okX_non, okX_bl, okX_int, okX_str, okX_tup, okX_ls, okX_loc, true_and, ix_ts ht hn, sub_int]
    refine ok_indexN (xs := lots) (z := n) rfl rfl hn ?_
    simp only [ok_ok, kDrop_ap, kRet_ap, kSet_ap, kCons2_ap, kCons_ap, kTup_ap, kLst_ap, kVal_ap, kNew_ap, kBin2_ap, kBin_ap, kUn_ap, kCall_ap, kCallL_ap, kNotT_ap, kAndT_ap, kOrT_ap, kIf_ap, kIfS_ap, kAnd_ap, kOr_ap, kNot_ap, kMt2_ap, kMt_ap, kPut4_ap, kPut3_ap, kPut2_ap, kPut_ap, kExt2_ap, kExt_ap, kAsg2_ap, kAsg_ap, kFor_ap, kLc_ap, kSl3_ap, kSl2_ap, kSl_ap, kGs_ap, ok_seq, sq_next, sq_ret, sq_brk, sq_cont, ok_nop, ok_brk, ok_cont, ok_drop, ok_ret, ok_retN, ok_set, ok_var0, ok_varS, ok_c, ok_nil, ok_cons, ok_tup, ok_lst, ok_val, ok_new, ok_bin, ok_un, ok_call, ok_callL, ok_test, tst_bl, ok_notT, ok_andT, ok_orT, ok_if, ok_ifS, ok_and, ok_or, ok_not, ok_mt, ok_put, ok_extend, pr2_mk, ok_par2, ok_asg, ok_for, ok_lc, ok_yes, ok_noPart, prt_int, ok_part, ok_sl, ok_gNm, ok_gTp, ok_gsN, ok_gsC, rg1_mk, rg2_mk, ok_rng1, ok_rng2, srcK_tup, srcK_ls, ok_src, finK_next, finK_ret, List.set_cons_zero, List.set_cons_succ, List.map_cons, List.map_nil, List.replicate, List.cons_append, List.nil_append, List.length_cons, List.length_nil, Bool.false_eq_true, eq_self, if_true, if_false, Nat.zero_add, okX_non, okX_bl, okX_int, okX_str, okX_tup, okX_ls, okX_loc, true_and]
    first | exact ⟨rfl, trivial⟩ | exact ⟨by decide, rfl, rfl⟩ | exact ⟨by decide, trivial⟩ | exact ⟨rfl, rfl⟩ | trivial
  · simp only [ok_ok, kDrop_ap, kRet_ap, kSet_ap, kCons2_ap, kCons_ap, kTup_ap, kLst_ap, kVal_ap, kNew_ap, kBin2_ap, kBin_ap, kUn_ap, kCall_ap, kCallL_ap, kNotT_ap, kAndT_ap, kOrT_ap, kIf_ap, kIfS_ap, kAnd_ap, kOr_ap, kNot_ap, kMt2_ap, kMt_ap, kPut4_ap, kPut3_ap, kPut2_ap, kPut_ap, kExt2_ap, kExt_ap, kAsg2_ap, kAsg_ap, kFor_ap, kLc_ap, kSl3_ap, kSl2_ap, kSl_ap, kGs_ap, ok_seq, sq_next, sq_ret, sq_brk, sq_cont, ok_nop, ok_brk, ok_cont, ok_drop, ok_ret, ok_retN, ok_set, ok_var0, ok_varS, ok_c, ok_nil, ok_cons, ok_tup, ok_lst, ok_val, ok_new, ok_bin, ok_un, ok_call, ok_callL, ok_test, tst_bl, ok_notT, ok_andT, ok_orT, ok_if, ok_ifS, ok_and, ok_or, ok_not, ok_mt, ok_put, ok_extend, pr2_mk, ok_par2, ok_asg, ok_for, ok_lc, ok_yes, ok_noPart, prt_int, ok_part, ok_sl, ok_gNm, ok_gTp, ok_gsN, ok_gsC, rg1_mk, rg2_mk, ok_rng1, ok_rng2, srcK_tup, srcK_ls, ok_src, finK_next, finK_ret, List.set_cons_zero, List.set_cons_succ, List.map_cons, List.map_nil, List.replicate, List.cons_append, List.nil_append, List.length_cons, List.length_nil, Bool.false_eq_true, eq_self, if_true, if_false, Nat.zero_add, okX_non, okX_bl, okX_int, okX_str, okX_tup, okX_ls, okX_loc, true_and, tuple_ls]
    exact fin_any (fun n => nofun) hT
theorem insert_loc {n at' : Nat} {ds : List Dv} {d : Dv} {s : Sto} (h : s[n]? = some (.lst ds)) (hl : ds.length < 1000000) (ha : at' < 1000000) : gInsert (.loc n) [.int (at' : Nat), d] s = .ok .non (s.set n (.lst (ds.take at' ++ [d] ++ ds.drop at'))) := by
  show (match s[n]? with | some (.lst ds) => Rs.iff (decide (ds.length < 16777216) && decide (0 ≤ ((at' : Nat) : Int)) && decide (((at' : Nat) : Int) < 2 ^ 63)) (Rs.ok Dv.non (s.set n (.lst (ds.take (((at' : Nat) : Int)).toNat ++ [d] ++ ds.drop (((at' : Nat) : Int)).toNat)))) | _ => .bad) = _
  rw [h]
  show Rs.iff _ _ = _
  rw [decide_eq_true (show ds.length < 16777216 by omega), decide_eq_true (show 0 ≤ ((at' : Nat) : Int) by omega), decide_eq_true (show ((at' : Nat) : Int) < 2 ^ 63 by omega), Int.toNat_natCast]
  rfl
def ttO : Fn Bool := (fTest (fBin gGe (fBin gIx (fVar 1) (fIndex (fVar 0) (fCons (fVar 5) (fNil)))) (fBin gIx (fVar 1) (fVar 3))))
def bOrdL (tt : Fn Bool) : Fn Ct :=
  fSeq (fSet 2 (fNew (fLst (fNil))))
  (fSeq (fFor (fRng1 (fCons (fCall gLen (fCons (fVar 0) (fNil))) (fNil))) (gNm 3) (fSeq (fSet 4 (fCall gLen (fCons (fVal (fLc (fSrc (fVar 2)) [5] (gNm 5) tt (fVar 5))) (fNil))))
  (fDrop (fMt isL gInsert (fVar 2) (fCons (fVar 4) (fCons (fBin gIx (fVar 0) (fVar 3)) (fNil)))))))
  (fRet (fCall gTuple (fCons (fVar 2) (fNil)))))
theorem ordL_step {tt : Fn Bool} (htt : tt = ttO) {lots : List Str} {ts : List Int} (ht : ts.length = lots.length) {l : List Str} (hl : ∀ a ∈ l, a ∈ lots) (hll : l.length ≤ 1000) {i : Nat} {z : Str} (hi : lots[i]? = some z) (hn : lots.Nodup) {s : Sto} {chk : Sto → Bool} (hck : chk (s ++ [.lst (l.map .str)]) = true) {v2 v4 : Option Dv} {L : List Dv → Sto → Prop}
    (hL : L ((l.filter fun a => decide (vT lots ts a ≥ vT lots ts z)).map .str) (s ++ [.lst (l.map .str)])) :
    OkE nX (lcZ chk [5] (gNm 5) tt (fVar 5) (l.map .str) [some (encS lots), some (.tup (ts.map .int)), v2, some (.int (i : Nat)), v4, none] (s ++ [.lst (l.map .str)])) L := by
  have hz := List.mem_of_getElem? hi
  have hp := plN_at hn hi
  subst htt
  have e : ((l.filter fun a => decide (vT lots ts a ≥ vT lots ts z)).map Dv.str) = ((l.map Dv.str).filter fun d => match d with | .str a => decide (vT lots ts a ≥ vT lots ts z) | _ => false).map fun d => d := by
    rw [List.filter_map, List.map_id']; rfl
  refine ok_mapC hck (fun d => match d with | .str a => decide (vT lots ts a ≥ vT lots ts z) | _ => false) (fun d => d) (fun d hd => ?_) (by rw [← e]; exact hL)
  obtain ⟨a, ha, rfl⟩ := List.mem_map.mp hd
  unfold ttO
  simp only [ok_ok, kDrop_ap, kRet_ap, kSet_ap, kCons2_ap, kCons_ap, kTup_ap, kLst_ap, kVal_ap, kNew_ap, kBin2_ap, kBin_ap, kUn_ap, kCall_ap, kCallL_ap, kNotT_ap, kAndT_ap, kOrT_ap, kIf_ap, kIfS_ap, kAnd_ap, kOr_ap, kNot_ap, kMt2_ap, kMt_ap, kPut4_ap, kPut3_ap, kPut2_ap, kPut_ap, kExt2_ap, kExt_ap, kAsg2_ap, kAsg_ap, kFor_ap, kLc_ap, kSl3_ap, kSl2_ap, kSl_ap, kGs_ap, ok_seq, sq_next, sq_ret, sq_brk, sq_cont, ok_nop, ok_brk, ok_cont, ok_drop, ok_ret, ok_retN, ok_set, ok_var0, ok_varS, ok_c, ok_nil, ok_cons, ok_tup, ok_lst, ok_val, ok_new, ok_bin, ok_un, ok_call, ok_callL, ok_test, tst_bl, ok_notT, ok_andT, ok_orT, ok_if, ok_ifS, ok_and, ok_or, ok_not, ok_mt, ok_put, ok_extend, pr2_mk, ok_par2, ok_asg, ok_for, ok_lc, ok_yes, ok_noPart, prt_int, ok_part, ok_sl, ok_gNm, ok_gTp, ok_gsN, ok_gsC, rg1_mk, rg2_mk, ok_rng1, ok_rng2, srcK_tup, srcK_ls, ok_src, finK_next, finK_ret, List.set_cons_zero, List.set_cons_succ, List.map_cons, List.map_nil, List.replicate, List.cons_append, List.nil_append, List.length_cons, List.length_nil, Bool.false_eq_true, eq_self, if_true, if_false, Nat.zero_add, okX_non, okX_bl, okX_int, okX_str, okX_tup, okX_ls, okX_loc, true_and, wipeZ]
  refine ok_indexN (xs := lots) (z := a) rfl rfl (hl a ha) ?_
  have ik : ∀ s : Sto, gIx (.tup (ts.map .int)) (.int (i : Nat)) s = .ok (.int (vT lots ts z)) s := fun s => by rw [← hp]; exact ix_ts ht hz s
  simp only [ok_ok, kDrop_ap, kRet_ap, kSet_ap, kCons2_ap, kCons_ap, kTup_ap, kLst_ap, kVal_ap, kNew_ap, kBin2_ap, kBin_ap, kUn_ap, kCall_ap, kCallL_ap, kNotT_ap, kAndT_ap, kOrT_ap, kIf_ap, kIfS_ap, kAnd_ap, kOr_ap, kNot_ap, kMt2_ap, kMt_ap, kPut4_ap, kPut3_ap, kPut2_ap, kPut_ap, kExt2_ap, kExt_ap, kAsg2_ap, kAsg_ap, kFor_ap, kLc_ap, kSl3_ap, kSl2_ap, kSl_ap, kGs_ap, ok_seq, sq_next, sq_ret, sq_brk, sq_cont, ok_nop, ok_brk, ok_cont, ok_drop, ok_ret, ok_retN, ok_set, ok_var0, ok_varS, ok_c, ok_nil, ok_cons, ok_tup, ok_lst, ok_val, ok_new, ok_bin, ok_un, ok_call, ok_callL, ok_test, tst_bl, ok_notT, ok_andT, ok_orT, ok_if, ok_ifS, ok_and, ok_or, ok_not, ok_mt, ok_put, ok_extend, pr2_mk, ok_par2, ok_asg, ok_for, ok_lc, ok_yes, ok_noPart, prt_int, ok_part, ok_sl, ok_gNm, ok_gTp, ok_gsN, ok_gsC, rg1_mk, rg2_mk, ok_rng1, ok_rng2, srcK_tup, srcK_ls, ok_src, finK_next, finK_ret, List.set_cons_zero, List.set_cons_succ, List.map_cons, List.map_nil, List.replicate, List.cons_append, List.nil_append, List.length_cons, List.length_nil, Bool.false_eq_true, eq_self, if_true, if_false, Nat.zero_add, okX_non, okX_bl, okX_int, okX_str, okX_tup, okX_ls, okX_loc, true_and, ix_ts ht (hl a ha), ik, ge_int]
  split <;> trivial
theorem ordL_spec {tt : Fn Bool} (htt : tt = ttO) : ∀ (lots : List Str) (ts : List Int) (s : Sto) (T : Dv → Sto → Prop), lots.length ≤ 1000 → ts.length = lots.length → lots.Nodup → Fl s → T (encS (ordS lots (vT lots ts))) s → OkE nX (fDef 2 6 (bOrdL tt) [encS lots, .tup (ts.map .int)] s) T := by
  intro lots ts s T hl ht hn hf hT
  rw [ok_def]
  refine ⟨rfl, ?_⟩
  unfold bOrdL
  simp only [ok_ok, kDrop_ap, kRet_ap, kSet_ap, kCons2_ap, kCons_ap, kTup_ap, kLst_ap, kVal_ap, kNew_ap, kBin2_ap, kBin_ap, kUn_ap, kCall_ap, kCallL_ap, kNotT_ap, kAndT_ap, kOrT_ap, kIf_ap, kIfS_ap, kAnd_ap, kOr_ap, kNot_ap, kMt2_ap, kMt_ap, kPut4_ap, kPut3_ap, kPut2_ap, kPut_ap, kExt2_ap, kExt_ap, kAsg2_ap, kAsg_ap, kFor_ap, kLc_ap, kSl3_ap, kSl2_ap, kSl_ap, kGs_ap, ok_seq, sq_next, sq_ret, sq_brk, sq_cont, ok_nop, ok_brk, ok_cont, ok_drop, ok_ret, ok_retN, ok_set, ok_var0, ok_varS, ok_c, ok_nil, ok_cons, ok_tup, ok_lst, ok_val, ok_new, ok_bin, ok_un, ok_call, ok_callL, ok_test, tst_bl, ok_notT, ok_andT, ok_orT, ok_if, ok_ifS, ok_and, ok_or, ok_not, ok_mt, ok_put, ok_extend, pr2_mk, ok_par2, ok_asg, ok_for, ok_lc, ok_yes, ok_noPart, prt_int, ok_part, ok_sl, ok_gNm, ok_gTp, ok_gsN, ok_gsC, rg1_mk, rg2_mk, ok_rng1, ok_rng2, srcK_tup, srcK_ls, ok_src, finK_next, finK_ret, List.set_cons_zero, List.set_cons_succ, List.map_cons, List.map_nil, List.replicate, List.cons_append, List.nil_append, List.length_cons, List.length_nil, Bool.false_eq_true, eq_self, if_true, if_false, Nat.zero_add, okX_non, okX_bl, okX_int, okX_str, okX_tup, okX_ls, okX_loc, true_and, len_encS]
  refine ⟨by decide, inRng_small (by omega) (by omega), ?_⟩
  refine ok_loop (fun i env s' => ∃ (v3 v4 : Option Dv) (l : List Str), env = [some (encS lots), some (.tup (ts.map .int)), some (.loc s.length), v3, v4, none] ∧ s' = s ++ [.lst (l.map .str)] ∧ l.Perm (lots.take i) ∧ l.Pairwise (AhR lots (vT lots ts)))
    (fun _ _ _ _ => rfl) (fun i d env s' hd h => ?_) (fun env s' h => ?_) ⟨_, _, [], rfl, rfl, by simp, List.Pairwise.nil⟩
  · obtain ⟨v3, v4, l, rfl, rfl, hp, hs⟩ := h
    obtain ⟨hi, rfl⟩ := rngD_get hd
    have hi : i < lots.length := by simpa using hi
    rw [show (0 : Int) + (i : Int) = ((i : Nat) : Int) by omega]
    obtain ⟨z, hz⟩ : ∃ z, lots[i]? = some z := ⟨_, List.getElem?_eq_getElem hi⟩
    have hlm : ∀ a ∈ l, a ∈ lots := fun a ha => List.mem_of_mem_take (hp.subset ha)
    have hll : l.length ≤ 1000 := by rw [hp.length_eq, List.length_take]; omega
    have hg : (s ++ [Ob.lst (l.map .str)])[s.length]? = some (.lst (l.map .str)) := bs_get
    have hpz := plN_at hn hz
    have hlt : ∀ a ∈ l, plN lots a < plN lots z := fun a ha => by
      obtain ⟨j, hj⟩ := List.mem_iff_getElem?.mp (hp.subset ha)
      have hji : j < i := by
        have := (List.getElem?_eq_some_iff.mp hj).1
        rw [List.length_take] at this
        omega
      rw [List.getElem?_take_of_lt hji] at hj
      rw [plN_at hn hj, hpz]; exact hji
    have ins := ins_sorted hs hlt
    have iz : ∀ s : Sto, gIx (encS lots) (.int (i : Nat)) s = .ok (.str z) s := fun s => ix_tupN (by rw [List.getElem?_map, hz]; rfl)
    simp only [ok_ok, kDrop_ap, kRet_ap, kSet_ap, kCons2_ap, kCons_ap, kTup_ap, kLst_ap, kVal_ap, kNew_ap, kBin2_ap, kBin_ap, kUn_ap, kCall_ap, kCallL_ap, kNotT_ap, kAndT_ap, kOrT_ap, kIf_ap, kIfS_ap, kAnd_ap, kOr_ap, kNot_ap, kMt2_ap, kMt_ap, kPut4_ap, kPut3_ap, kPut2_ap, kPut_ap, kExt2_ap, kExt_ap, kAsg2_ap, kAsg_ap, kFor_ap, kLc_ap, kSl3_ap, kSl2_ap, kSl_ap, kGs_ap, ok_seq, sq_next, sq_ret, sq_brk, sq_cont, ok_nop, ok_brk, ok_cont, ok_drop, ok_ret, ok_retN, ok_set, ok_var0, ok_varS, ok_c, ok_nil, ok_cons, ok_tup, ok_lst, ok_val, ok_new, ok_bin, ok_un, ok_call, ok_callL, ok_test, tst_bl, ok_notT, ok_andT, ok_orT, ok_if, ok_ifS, ok_and, ok_or, ok_not, ok_mt, ok_put, ok_extend, pr2_mk, ok_par2, ok_asg, ok_for, ok_lc, ok_yes, ok_noPart, prt_int, ok_part, ok_sl, ok_gNm, ok_gTp, ok_gsN, ok_gsC, rg1_mk, rg2_mk, ok_rng1, ok_rng2, srcK_tup, srcK_ls, ok_src, finK_next, finK_ret, List.set_cons_zero, List.set_cons_succ, List.map_cons, List.map_nil, List.replicate, List.cons_append, List.nil_append, List.length_cons, List.length_nil, Bool.false_eq_true, eq_self, if_true, if_false, Nat.zero_add, okX_non, okX_bl, okX_int, okX_str, okX_tup, okX_ls, okX_loc, true_and]
    rw [srcK_loc hg]
    refine ⟨decide_eq_true (by rw [List.length_map]; omega), ?_⟩
    refine ordL_step htt ht hlm hll hz hn (isLst_mk hg) ?_
    have hfl := List.length_filter_le (fun a => decide (vT lots ts a ≥ vT lots ts z)) l
    simp only [ok_ok, kDrop_ap, kRet_ap, kSet_ap, kCons2_ap, kCons_ap, kTup_ap, kLst_ap, kVal_ap, kNew_ap, kBin2_ap, kBin_ap, kUn_ap, kCall_ap, kCallL_ap, kNotT_ap, kAndT_ap, kOrT_ap, kIf_ap, kIfS_ap, kAnd_ap, kOr_ap, kNot_ap, kMt2_ap, kMt_ap, kPut4_ap, kPut3_ap, kPut2_ap, kPut_ap, kExt2_ap, kExt_ap, kAsg2_ap, kAsg_ap, kFor_ap, kLc_ap, kSl3_ap, kSl2_ap, kSl_ap, kGs_ap, ok_seq, sq_next, sq_ret, sq_brk, sq_cont, ok_nop, ok_brk, ok_cont, ok_drop, ok_ret, ok_retN, ok_set, ok_var0, ok_varS, ok_c, ok_nil, ok_cons, ok_tup, ok_lst, ok_val, ok_new, ok_bin, ok_un, ok_call, ok_callL, ok_test, tst_bl, ok_notT, ok_andT, ok_orT, ok_if, ok_ifS, ok_and, ok_or, ok_not, ok_mt, ok_put, ok_extend, pr2_mk, ok_par2, ok_asg, ok_for, ok_lc, ok_yes, ok_noPart, prt_int, ok_part, ok_sl, ok_gNm, ok_gTp, ok_gsN, ok_gsC, rg1_mk, rg2_mk, ok_rng1, ok_rng2, srcK_tup, srcK_ls, ok_src, finK_next, finK_ret, List.set_cons_zero, List.set_cons_succ, List.map_cons, List.map_nil, List.replicate, List.cons_append, List.nil_append, List.length_cons, List.length_nil, Bool.false_eq_true, eq_self, if_true, if_false, Nat.zero_add, okX_non, okX_bl, okX_int, okX_str, okX_tup, okX_ls, okX_loc, true_and, len_ls, List.length_map]
    refine ⟨isL_loc hg, ?_⟩
    simp only [ok_ok, kDrop_ap, kRet_ap, kSet_ap, kCons2_ap, kCons_ap, kTup_ap, kLst_ap, kVal_ap, kNew_ap, kBin2_ap, kBin_ap, kUn_ap, kCall_ap, kCallL_ap, kNotT_ap, kAndT_ap, kOrT_ap, kIf_ap, kIfS_ap, kAnd_ap, kOr_ap, kNot_ap, kMt2_ap, kMt_ap, kPut4_ap, kPut3_ap, kPut2_ap, kPut_ap, kExt2_ap, kExt_ap, kAsg2_ap, kAsg_ap, kFor_ap, kLc_ap, kSl3_ap, kSl2_ap, kSl_ap, kGs_ap, ok_seq, sq_next, sq_ret, sq_brk, sq_cont, ok_nop, ok_brk, ok_cont, ok_drop, ok_ret, ok_retN, ok_set, ok_var0, ok_varS, ok_c, ok_nil, ok_cons, ok_tup, ok_lst, ok_val, ok_new, ok_bin, ok_un, ok_call, ok_callL, ok_test, tst_bl, ok_notT, ok_andT, ok_orT, ok_if, ok_ifS, ok_and, ok_or, ok_not, ok_mt, ok_put, ok_extend, pr2_mk, ok_par2, ok_asg, ok_for, ok_lc, ok_yes, ok_noPart, prt_int, ok_part, ok_sl, ok_gNm, ok_gTp, ok_gsN, ok_gsC, rg1_mk, rg2_mk, ok_rng1, ok_rng2, srcK_tup, srcK_ls, ok_src, finK_next, finK_ret, List.set_cons_zero, List.set_cons_succ, List.map_cons, List.map_nil, List.replicate, List.cons_append, List.nil_append, List.length_cons, List.length_nil, Bool.false_eq_true, eq_self, if_true, if_false, Nat.zero_add, okX_non, okX_bl, okX_int, okX_str, okX_tup, okX_ls, okX_loc, true_and, iz]
    rw [insert_loc hg (by rw [List.length_map]; omega) (by omega), ok_ok, bs_set]
    simp only [ok_ok, kDrop_ap, kRet_ap, kSet_ap, kCons2_ap, kCons_ap, kTup_ap, kLst_ap, kVal_ap, kNew_ap, kBin2_ap, kBin_ap, kUn_ap, kCall_ap, kCallL_ap, kNotT_ap, kAndT_ap, kOrT_ap, kIf_ap, kIfS_ap, kAnd_ap, kOr_ap, kNot_ap, kMt2_ap, kMt_ap, kPut4_ap, kPut3_ap, kPut2_ap, kPut_ap, kExt2_ap, kExt_ap, kAsg2_ap, kAsg_ap, kFor_ap, kLc_ap, kSl3_ap, kSl2_ap, kSl_ap, kGs_ap, ok_seq, sq_next, sq_ret, sq_brk, sq_cont, ok_nop, ok_brk, ok_cont, ok_drop, ok_ret, ok_retN, ok_set, ok_var0, ok_varS, ok_c, ok_nil, ok_cons, ok_tup, ok_lst, ok_val, ok_new, ok_bin, ok_un, ok_call, ok_callL, ok_test, tst_bl, ok_notT, ok_andT, ok_orT, ok_if, ok_ifS, ok_and, ok_or, ok_not, ok_mt, ok_put, ok_extend, pr2_mk, ok_par2, ok_asg, ok_for, ok_lc, ok_yes, ok_noPart, prt_int, ok_part, ok_sl, ok_gNm, ok_gTp, ok_gsN, ok_gsC, rg1_mk, rg2_mk, ok_rng1, ok_rng2, srcK_tup, srcK_ls, ok_src, finK_next, finK_ret, List.set_cons_zero, List.set_cons_succ, List.map_cons, List.map_nil, List.replicate, List.cons_append, List.nil_append, List.length_cons, List.length_nil, Bool.false_eq_true, eq_self, if_true, if_false, Nat.zero_add, okX_non, okX_bl, okX_int, okX_str, okX_tup, okX_ls, okX_loc, true_and]
    generalize hn0 : (l.filter fun a => decide (vT lots ts a ≥ vT lots ts z)).length = n at ins hfl
    refine ⟨_, _, l.take n ++ [z] ++ l.drop n, rfl, ?_, ?_, ins⟩
    · rw [List.map_append, List.map_append, List.map_take, List.map_drop]; rfl
    · have h1 : (l.take n ++ [z] ++ l.drop n).Perm (l ++ [z]) := by
        have h2 : (l.take n ++ [z] ++ l.drop n).Perm (l.take n ++ l.drop n ++ [z]) := by
          rw [List.append_assoc, List.append_assoc]
          exact List.Perm.append_left _ List.perm_append_comm
        rwa [List.take_append_drop] at h2
      refine h1.trans ?_
      rw [List.take_add_one, hz]
      exact List.Perm.append_right _ hp
  · obtain ⟨v3, v4, l, rfl, rfl, hp, hs⟩ := h
    rw [rngD_len] at hp
    have hp : l.Perm lots := by
      rw [Int.toNat_natCast, List.take_length] at hp
      exact hp
    have hg : (s ++ [Ob.lst (l.map .str)])[s.length]? = some (.lst (l.map .str)) := bs_get
    have he : l = ordS lots (vT lots ts) := perm_uniq (fun h h2 => AhR.asymm h h2) (hp.trans (ordS_perm _ _).symm) hs (ordS_sorted hn)
    simp only [ok_ok, kDrop_ap, kRet_ap, kSet_ap, kCons2_ap, kCons_ap, kTup_ap, kLst_ap, kVal_ap, kNew_ap, kBin2_ap, kBin_ap, kUn_ap, kCall_ap, kCallL_ap, kNotT_ap, kAndT_ap, kOrT_ap, kIf_ap, kIfS_ap, kAnd_ap, kOr_ap, kNot_ap, kMt2_ap, kMt_ap, kPut4_ap, kPut3_ap, kPut2_ap, kPut_ap, kExt2_ap, kExt_ap, kAsg2_ap, kAsg_ap, kFor_ap, kLc_ap, kSl3_ap, kSl2_ap, kSl_ap, kGs_ap, ok_seq, sq_next, sq_ret, sq_brk, sq_cont, ok_nop, ok_brk, ok_cont, ok_drop, ok_ret, ok_retN, ok_set, ok_var0, ok_varS, ok_c, ok_nil, ok_cons, ok_tup, ok_lst, ok_val, ok_new, ok_bin, ok_un, ok_call, ok_callL, ok_test, tst_bl, ok_notT, ok_andT, ok_orT, ok_if, ok_ifS, ok_and, ok_or, ok_not, ok_mt, ok_put, ok_extend, pr2_mk, ok_par2, ok_asg, ok_for, ok_lc, ok_yes, ok_noPart, prt_int, ok_part, ok_sl, ok_gNm, ok_gTp, ok_gsN, ok_gsC, rg1_mk, rg2_mk, ok_rng1, ok_rng2, srcK_tup, srcK_ls, ok_src, finK_next, finK_ret, List.set_cons_zero, List.set_cons_succ, List.map_cons, List.map_nil, List.replicate, List.cons_append, List.nil_append, List.length_cons, List.length_nil, Bool.false_eq_true, eq_self, if_true, if_false, Nat.zero_add, okX_non, okX_bl, okX_int, okX_str, okX_tup, okX_ls, okX_loc, true_and, tuple_loc hg]
    rw [he]
    refine fin_base hf ?_ hT
    exact below_encS 0 _
end Z

namespace Z
open PySem PySem.Spec L2

/-! ### places, ahead -/
abbrev ordT (lots : List Str) (ts : List Int) : List Str := ordS lots (vT lots ts)
theorem OrdS.val {φ : Phi} (h : OrdS φ) {lots : List Str} {ts : List Int} {s : Sto} (hl : lots.length ≤ 1000) (ht : ts.length = lots.length) : φ [encS lots, .tup (ts.map .int)] s = .ok (encS (ordT lots ts)) s := by
  obtain ⟨d, s', e, rfl, rfl⟩ := (h lots ts s (fun d s' => d = encS (ordT lots ts) ∧ s' = s) hl ht ⟨rfl, rfl⟩).get
  exact e
noncomputable def bPlX (φa φo : Phi) : Fn Ct :=
  fSeq (fDrop (fCall φa (fSure (fCons (fVar 0) (fCons (fVar 2) (fNil))))))
  (fSure (fRet (fIndex (fCall φo (fCons (fVar 0) (fCons (fVar 1) (fNil)))) (fCons (fVar 2) (fNil)))))
def PlX (φ : Phi) : Prop := ∀ (lots : List Str) (ts : List Int) (z : Str) (s : Sto) (Ex T : Dv → Sto → Prop), lots.length ≤ 1000 → ts.length = lots.length → Fl s → (z ∈ lots → T (.int (plN (ordT lots ts) z : Nat)) s) → (z ∉ lots → Ex (.xn 0 0 5 [.str z]) s) → OkE Ex (φ [encS lots, .tup (ts.map .int), .str z] s) T
theorem plX_spec {φa φo : Phi} (ha : AtX φa) (ho : OrdS φo) : PlX (fDefX 3 3 (bPlX φa φo)) := by
  intro lots ts z s Ex T hl ht hf hT hx
  rw [ok_defX]
  refine ⟨rfl, ?_⟩
  unfold bPlX
  simp only [ok_ok, kDrop_ap, kRet_ap, kSet_ap, kCons2_ap, kCons_ap, kTup_ap, kLst_ap, kVal_ap, kNew_ap, kBin2_ap, kBin_ap, kUn_ap, kCall_ap, kCallL_ap, kNotT_ap, kAndT_ap, kOrT_ap, kIf_ap, kIfS_ap, kAnd_ap, kOr_ap, kNot_ap, kMt2_ap, kMt_ap, kPut4_ap, kPut3_ap, kPut2_ap, kPut_ap, kExt2_ap, kExt_ap, kAsg2_ap, kAsg_ap, kFor_ap, kLc_ap, kSl3_ap, kSl2_ap, kSl_ap, kGs_ap, ok_seq, sq_next, sq_ret, sq_brk, sq_cont, ok_nop, ok_brk, ok_cont, ok_drop, ok_ret, ok_retN, ok_set, ok_var0, ok_varS, ok_c, ok_nil, ok_cons, ok_tup, ok_lst, ok_val, ok_new, ok_bin, ok_un, ok_call, ok_callL, ok_test, tst_bl, ok_notT, ok_andT, ok_orT, ok_if, ok_ifS, ok_and, ok_or, ok_not, ok_mt, ok_put, ok_extend, pr2_mk, ok_par2, ok_asg, ok_for, ok_lc, ok_yes, ok_noPart, prt_int, ok_part, ok_sl, ok_gNm, ok_gTp, ok_gsN, ok_gsC, rg1_mk, rg2_mk, ok_rng1, ok_rng2, srcK_tup, srcK_ls, ok_src, finK_next, finK_ret, List.set_cons_zero, List.set_cons_succ, List.map_cons, List.map_nil, List.replicate, List.cons_append, List.nil_append, List.length_cons, List.length_nil, Bool.false_eq_true, eq_self, if_true, if_false, Nat.zero_add, okX_non, okX_bl, okX_int, okX_str, okX_tup, okX_ls, okX_loc, true_and, ok_sure]
  refine ha lots z s _ _ hf (fun hz k hk => ?_) (fun hz => kOut_mk hf rfl (hx hz))
  simp only [ok_ok, kDrop_ap, kRet_ap, kSet_ap, kCons2_ap, kCons_ap, kTup_ap, kLst_ap, kVal_ap, kNew_ap, kBin2_ap, kBin_ap, kUn_ap, kCall_ap, kCallL_ap, kNotT_ap, kAndT_ap, kOrT_ap, kIf_ap, kIfS_ap, kAnd_ap, kOr_ap, kNot_ap, kMt2_ap, kMt_ap, kPut4_ap, kPut3_ap, kPut2_ap, kPut_ap, kExt2_ap, kExt_ap, kAsg2_ap, kAsg_ap, kFor_ap, kLc_ap, kSl3_ap, kSl2_ap, kSl_ap, kGs_ap, ok_seq, sq_next, sq_ret, sq_brk, sq_cont, ok_nop, ok_brk, ok_cont, ok_drop, ok_ret, ok_retN, ok_set, ok_var0, ok_varS, ok_c, ok_nil, ok_cons, ok_tup, ok_lst, ok_val, ok_new, ok_bin, ok_un, ok_call, ok_callL, ok_test, tst_bl, ok_notT, ok_andT, ok_orT, ok_if, ok_ifS, ok_and, ok_or, ok_not, ok_mt, ok_put, ok_extend, pr2_mk, ok_par2, ok_asg, ok_for, ok_lc, ok_yes, ok_noPart, prt_int, ok_part, ok_sl, ok_gNm, ok_gTp, ok_gsN, ok_gsC, rg1_mk, rg2_mk, ok_rng1, ok_rng2, srcK_tup, srcK_ls, ok_src, finK_next, finK_ret, List.set_cons_zero, List.set_cons_succ, List.map_cons, List.map_nil, List.replicate, List.cons_append, List.nil_append, List.length_cons, List.length_nil, Bool.false_eq_true, eq_self, if_true, if_false, Nat.zero_add, okX_non, okX_bl, okX_int, okX_str, okX_tup, okX_ls, okX_loc, true_and, ok_sure]
  have hm : z ∈ ordT lots ts := (ordS_perm _ _).mem_iff.mpr hz
  refine ok_indexN (xs := ordT lots ts) (z := z) (show φo [encS lots, .tup (ts.map .int)] s = _ from ho.val hl ht) rfl hm ?_
  simp only [ok_ok, kDrop_ap, kRet_ap, kSet_ap, kCons2_ap, kCons_ap, kTup_ap, kLst_ap, kVal_ap, kNew_ap, kBin2_ap, kBin_ap, kUn_ap, kCall_ap, kCallL_ap, kNotT_ap, kAndT_ap, kOrT_ap, kIf_ap, kIfS_ap, kAnd_ap, kOr_ap, kNot_ap, kMt2_ap, kMt_ap, kPut4_ap, kPut3_ap, kPut2_ap, kPut_ap, kExt2_ap, kExt_ap, kAsg2_ap, kAsg_ap, kFor_ap, kLc_ap, kSl3_ap, kSl2_ap, kSl_ap, kGs_ap, ok_seq, sq_next, sq_ret, sq_brk, sq_cont, ok_nop, ok_brk, ok_cont, ok_drop, ok_ret, ok_retN, ok_set, ok_var0, ok_varS, ok_c, ok_nil, ok_cons, ok_tup, ok_lst, ok_val, ok_new, ok_bin, ok_un, ok_call, ok_callL, ok_test, tst_bl, ok_notT, ok_andT, ok_orT, ok_if, ok_ifS, ok_and, ok_or, ok_not, ok_mt, ok_put, ok_extend, pr2_mk, ok_par2, ok_asg, ok_for, ok_lc, ok_yes, ok_noPart, prt_int, ok_part, ok_sl, ok_gNm, ok_gTp, ok_gsN, ok_gsC, rg1_mk, rg2_mk, ok_rng1, ok_rng2, srcK_tup, srcK_ls, ok_src, finK_next, finK_ret, List.set_cons_zero, List.set_cons_succ, List.map_cons, List.map_nil, List.replicate, List.cons_append, List.nil_append, List.length_cons, List.length_nil, Bool.false_eq_true, eq_self, if_true, if_false, Nat.zero_add, okX_non, okX_bl, okX_int, okX_str, okX_tup, okX_ls, okX_loc, true_and]
  exact OkE.up (fin_any (fun n => nofun) (hT hz))
noncomputable def bAhX (φp : Phi) : Fn Ct := fRet (fBin (sure3 gLt) (fCall φp (fSure (fCons (fVar 0) (fCons (fVar 1) (fCons (fVar 2) (fNil)))))) (fCall φp (fSure (fCons (fVar 0) (fCons (fVar 1) (fCons (fVar 3) (fNil)))))))
def AhX (φ : Phi) : Prop := ∀ (lots : List Str) (ts : List Int) (one other : Str) (s : Sto) (Ex T : Dv → Sto → Prop), lots.length ≤ 1000 → ts.length = lots.length → Fl s → (one ∈ lots → other ∈ lots → T (.bl (decide ((plN (ordT lots ts) one : Nat) < (plN (ordT lots ts) other : Nat)))) s) → (one ∉ lots → Ex (.xn 0 0 5 [.str one]) s) → (one ∈ lots → other ∉ lots → Ex (.xn 0 0 5 [.str other]) s) → OkE Ex (φ [encS lots, .tup (ts.map .int), .str one, .str other] s) T
theorem ahX_spec {φp : Phi} (hp : PlX φp) : AhX (fDefX 4 4 (bAhX φp)) := by
  intro lots ts one other s Ex T hl ht hf hT h1 h2
  rw [ok_defX]
  refine ⟨rfl, ?_⟩
  unfold bAhX
  simp only [ok_ok, kDrop_ap, kRet_ap, kSet_ap, kCons2_ap, kCons_ap, kTup_ap, kLst_ap, kVal_ap, kNew_ap, kBin2_ap, kBin_ap, kUn_ap, kCall_ap, kCallL_ap, kNotT_ap, kAndT_ap, kOrT_ap, kIf_ap, kIfS_ap, kAnd_ap, kOr_ap, kNot_ap, kMt2_ap, kMt_ap, kPut4_ap, kPut3_ap, kPut2_ap, kPut_ap, kExt2_ap, kExt_ap, kAsg2_ap, kAsg_ap, kFor_ap, kLc_ap, kSl3_ap, kSl2_ap, kSl_ap, kGs_ap, ok_seq, sq_next, sq_ret, sq_brk, sq_cont, ok_nop, ok_brk, ok_cont, ok_drop, ok_ret, ok_retN, ok_set, ok_var0, ok_varS, ok_c, ok_nil, ok_cons, ok_tup, ok_lst, ok_val, ok_new, ok_bin, ok_un, ok_call, ok_callL, ok_test, tst_bl, ok_notT, ok_andT, ok_orT, ok_if, ok_ifS, ok_and, ok_or, ok_not, ok_mt, ok_put, ok_extend, pr2_mk, ok_par2, ok_asg, ok_for, ok_lc, ok_yes, ok_noPart, prt_int, ok_part, ok_sl, ok_gNm, ok_gTp, ok_gsN, ok_gsC, rg1_mk, rg2_mk, ok_rng1, ok_rng2, srcK_tup, srcK_ls, ok_src, finK_next, finK_ret, List.set_cons_zero, List.set_cons_succ, List.map_cons, List.map_nil, List.replicate, List.cons_append, List.nil_append, List.length_cons, List.length_nil, Bool.false_eq_true, eq_self, if_true, if_false, Nat.zero_add, okX_non, okX_bl, okX_int, okX_str, okX_tup, okX_ls, okX_loc, true_and, ok_sure]
  refine hp lots ts one s _ _ hl ht hf (fun hz => ?_) (fun hz => kOut_mk hf rfl (h1 hz))
  simp only [ok_ok, kDrop_ap, kRet_ap, kSet_ap, kCons2_ap, kCons_ap, kTup_ap, kLst_ap, kVal_ap, kNew_ap, kBin2_ap, kBin_ap, kUn_ap, kCall_ap, kCallL_ap, kNotT_ap, kAndT_ap, kOrT_ap, kIf_ap, kIfS_ap, kAnd_ap, kOr_ap, kNot_ap, kMt2_ap, kMt_ap, kPut4_ap, kPut3_ap, kPut2_ap, kPut_ap, kExt2_ap, kExt_ap, kAsg2_ap, kAsg_ap, kFor_ap, kLc_ap, kSl3_ap, kSl2_ap, kSl_ap, kGs_ap, ok_seq, sq_next, sq_ret, sq_brk, sq_cont, ok_nop, ok_brk, ok_cont, ok_drop, ok_ret, ok_retN, ok_set, ok_var0, ok_varS, ok_c, ok_nil, ok_cons, ok_tup, ok_lst, ok_val, ok_new, ok_bin, ok_un, ok_call, ok_callL, ok_test, tst_bl, ok_notT, ok_andT, ok_orT, ok_if, ok_ifS, ok_and, ok_or, ok_not, ok_mt, ok_put, ok_extend, pr2_mk, ok_par2, ok_asg, ok_for, ok_lc, ok_yes, ok_noPart, prt_int, ok_part, ok_sl, ok_gNm, ok_gTp, ok_gsN, ok_gsC, rg1_mk, rg2_mk, ok_rng1, ok_rng2, srcK_tup, srcK_ls, ok_src, finK_next, finK_ret, List.set_cons_zero, List.set_cons_succ, List.map_cons, List.map_nil, List.replicate, List.cons_append, List.nil_append, List.length_cons, List.length_nil, Bool.false_eq_true, eq_self, if_true, if_false, Nat.zero_add, okX_non, okX_bl, okX_int, okX_str, okX_tup, okX_ls, okX_loc, true_and, ok_sure]
  refine hp lots ts other s _ _ hl ht hf (fun hz2 => ?_) (fun hz2 => kOut_mk hf rfl (h2 hz hz2))
  simp only [ok_ok, kDrop_ap, kRet_ap, kSet_ap, kCons2_ap, kCons_ap, kTup_ap, kLst_ap, kVal_ap, kNew_ap, kBin2_ap, kBin_ap, kUn_ap, kCall_ap, kCallL_ap, kNotT_ap, kAndT_ap, kOrT_ap, kIf_ap, kIfS_ap, kAnd_ap, kOr_ap, kNot_ap, kMt2_ap, kMt_ap, kPut4_ap, kPut3_ap, kPut2_ap, kPut_ap, kExt2_ap, kExt_ap, kAsg2_ap, kAsg_ap, kFor_ap, kLc_ap, kSl3_ap, kSl2_ap, kSl_ap, kGs_ap, ok_seq, sq_next, sq_ret, sq_brk, sq_cont, ok_nop, ok_brk, ok_cont, ok_drop, ok_ret, ok_retN, ok_set, ok_var0, ok_varS, ok_c, ok_nil, ok_cons, ok_tup, ok_lst, ok_val, ok_new, ok_bin, ok_un, ok_call, ok_callL, ok_test, tst_bl, ok_notT, ok_andT, ok_orT, ok_if, ok_ifS, ok_and, ok_or, ok_not, ok_mt, ok_put, ok_extend, pr2_mk, ok_par2, ok_asg, ok_for, ok_lc, ok_yes, ok_noPart, prt_int, ok_part, ok_sl, ok_gNm, ok_gTp, ok_gsN, ok_gsC, rg1_mk, rg2_mk, ok_rng1, ok_rng2, srcK_tup, srcK_ls, ok_src, finK_next, finK_ret, List.set_cons_zero, List.set_cons_succ, List.map_cons, List.map_nil, List.replicate, List.cons_append, List.nil_append, List.length_cons, List.length_nil, Bool.false_eq_true, eq_self, if_true, if_false, Nat.zero_add, okX_non, okX_bl, okX_int, okX_str, okX_tup, okX_ls, okX_loc, true_and]
  have e : ∀ s : Sto, sure3 gLt (.int (plN (ordT lots ts) one : Nat)) (.int (plN (ordT lots ts) other : Nat)) s = .ok (.bl (decide ((plN (ordT lots ts) one : Nat) < (plN (ordT lots ts) other : Nat)))) s := fun s => by
    show (Rs.ok (Dv.bl (decide (((plN (ordT lots ts) one : Nat) : Int) < ((plN (ordT lots ts) other : Nat) : Int)))) s).sure = _
    rw [show decide (((plN (ordT lots ts) one : Nat) : Int) < ((plN (ordT lots ts) other : Nat) : Int)) = decide ((plN (ordT lots ts) one : Nat) < (plN (ordT lots ts) other : Nat)) by simp]
    rfl
  rw [e]
  simp only [ok_ok, kDrop_ap, kRet_ap, kSet_ap, kCons2_ap, kCons_ap, kTup_ap, kLst_ap, kVal_ap, kNew_ap, kBin2_ap, kBin_ap, kUn_ap, kCall_ap, kCallL_ap, kNotT_ap, kAndT_ap, kOrT_ap, kIf_ap, kIfS_ap, kAnd_ap, kOr_ap, kNot_ap, kMt2_ap, kMt_ap, kPut4_ap, kPut3_ap, kPut2_ap, kPut_ap, kExt2_ap, kExt_ap, kAsg2_ap, kAsg_ap, kFor_ap, kLc_ap, kSl3_ap, kSl2_ap, kSl_ap, kGs_ap, ok_seq, sq_next, sq_ret, sq_brk, sq_cont, ok_nop, ok_brk, ok_cont, ok_drop, ok_ret, ok_retN, ok_set, ok_var0, ok_varS, ok_c, ok_nil, ok_cons, ok_tup, ok_lst, ok_val, ok_new, ok_bin, ok_un, ok_call, ok_callL, ok_test, tst_bl, ok_notT, ok_andT, ok_orT, ok_if, ok_ifS, ok_and, ok_or, ok_not, ok_mt, ok_put, ok_extend, pr2_mk, ok_par2, ok_asg, ok_for, ok_lc, ok_yes, ok_noPart, prt_int, ok_part, ok_sl, ok_gNm, ok_gTp, ok_gsN, ok_gsC, rg1_mk, rg2_mk, ok_rng1, ok_rng2, srcK_tup, srcK_ls, ok_src, finK_next, finK_ret, List.set_cons_zero, List.set_cons_succ, List.map_cons, List.map_nil, List.replicate, List.cons_append, List.nil_append, List.length_cons, List.length_nil, Bool.false_eq_true, eq_self, if_true, if_false, Nat.zero_add, okX_non, okX_bl, okX_int, okX_str, okX_tup, okX_ls, okX_loc, true_and]
  exact OkE.up (fin_any (fun n => nofun) (hT hz hz2))
/-! ### the law's right -/
def WOk (z : Str) : Prop := PyData.strOk z = true ∧ z.cps.size ≤ 8
theorem repr_w2 {w : Str} (hw : WOk w) {d : Dv} (hd : gb 2 d = true) (hb : wb d ≤ 400) {s : Sto} : gRepr [.tup [.str w, d]] s = .ok (.str (pd (.tup [.str w, d])).shown) s := by
  have h2 := hw.2
  refine repr_gb (n := 3) ?_ (by decide) ?_
  · rw [gb_tup]; simp only [gbs, Bool.and_eq_true]
    exact ⟨gb_str.mpr ⟨hw.1, by omega⟩, hd, trivial⟩
  · rw [wb_tup]; simp only [wbs, wb]; omega
theorem gb2_str {w : Str} (hw : WOk w) : gb 2 (.str w) = true ∧ wb (.str w) ≤ 400 := ⟨gb_str.mpr ⟨hw.1, by have := hw.2; omega⟩, by simp only [wb]; have := hw.2; omega⟩
theorem gb2_nat {k : Nat} (hk : k ≤ 1000) : gb 2 (.int (k : Nat)) = true ∧ wb (.int (k : Nat)) ≤ 400 := ⟨decide_eq_true (Nat.lt_of_le_of_lt (show ((k : Nat) : Int).natAbs ≤ 1000 by omega) (by decide +kernel)), by simp [wb]⟩
theorem gb2_bl {b : Bool} : gb 2 (.bl b) = true ∧ wb (.bl b) ≤ 400 := ⟨rfl, by simp [wb]⟩
/-- what is due of one name, of two -/
def due1 (lots : List Str) (ts : List Int) (one : Str) : Dv := if one ∈ lots then .tup [.str (Str.ofString "told"), .int (plN (ordT lots ts) one : Nat)] else .tup [.str (Str.ofString "name"), .str one]
def due2 (lots : List Str) (ts : List Int) (one other : Str) : Dv := if one ∈ lots then (if other ∈ lots then .tup [.str (Str.ofString "told"), .bl (decide ((plN (ordT lots ts) one : Nat) < (plN (ordT lots ts) other : Nat)))] else .tup [.str (Str.ofString "name"), .str other]) else .tup [.str (Str.ofString "name"), .str one]
theorem wok_s : ∀ z ∈ [Str.ofString "told", Str.ofString "name"], PyData.strOk z = true ∧ z.cps.size ≤ 8 := by decide +kernel
theorem ordT_len (lots : List Str) (ts : List Int) : (ordT lots ts).length = lots.length := (ordS_perm _ _).length_eq
theorem repr_due1 {lots : List Str} {ts : List Int} (hl : lots.length ≤ 1000) {one : Str} (hw : WOk one) {s : Sto} : gRepr [due1 lots ts one] s = .ok (.str (pd (due1 lots ts one)).shown) s := by
  unfold due1
  split
  · rename_i h
    have hm : one ∈ ordT lots ts := (ordS_perm _ _).mem_iff.mpr h
    have := plN_lt hm
    have := ordT_len lots ts
    exact repr_w2 (wok_s _ (by simp)) (gb2_nat (by omega)).1 (gb2_nat (by omega)).2
  · exact repr_w2 (wok_s _ (by simp)) (gb2_str hw).1 (gb2_str hw).2
theorem repr_due2 {lots : List Str} {ts : List Int} {one other : Str} (hw : WOk one) (hw2 : WOk other) {s : Sto} : gRepr [due2 lots ts one other] s = .ok (.str (pd (due2 lots ts one other)).shown) s := by
  unfold due2
  split
  · split
    · exact repr_w2 (wok_s _ (by simp)) gb2_bl.1 gb2_bl.2
    · exact repr_w2 (wok_s _ (by simp)) (gb2_str hw2).1 (gb2_str hw2).2
  · exact repr_w2 (wok_s _ (by simp)) (gb2_str hw).1 (gb2_str hw).2
def bA2 (bi : Fn Ct) : Fn Ct := (fSeq (fSet 5 (fVal (fLc (fSrc (fTup (fCons (fVar 7) (fCons (fVar 8) (fNil))))) [9] (gNm 9) (fTest (fBin gNotIn (fVar 9) (fVar 0))) (fVar 9))))
  (fSeq (fSet 6 (fIf (fTest (fBin gNe (fVar 5) (fVal (fLst (fNil))))) (fTup (fCons (fC (.str (Str.ofString "name"))) (fCons (fBin gIx (fVar 5) (fC (.int 0))) (fNil)))) (fTup (fCons (fC (.str (Str.ofString "told"))) (fCons (fBin gLt (fIndex (fVar 2) (fCons (fVar 7) (fNil))) (fIndex (fVar 2) (fCons (fVar 8) (fNil)))) (fNil))))))
  bi))
noncomputable def bA2i (prs : Nat → Bool) (m : Nat) (gs : Addr → Addr → Nat → Fn Ct) (φh : Phi) : Fn Ct := (fIfS (fTest (fBin gNe (fCall gRepr (fCons (fHeard prs m gs (fCall φh (fSure (fCons (fVar 0) (fCons (fVar 1) (fCons (fVar 7) (fCons (fVar 8) (fNil)))))))) (fNil))) (fCall gRepr (fCons (fVar 6) (fNil))))) (fRet (fC (.bl false))) (fNop))
theorem a2i_spec {prs : Nat → Bool} {m : Nat} {gs : Addr → Addr → Nat → Fn Ct} {φh : Phi} {b : Fn Ct} (hb : b = bA2i prs m gs φh) (hG : SuiteS gs) (hm : m = 5) (hp : ∀ cn, cn < 9 → prs cn = true) (hX : AhX φh) {lots : List Str} {ts : List Int} (hl : lots.length ≤ 1000) (ht : ts.length = lots.length) {one other : Str} (h1 : WOk one) (h2 : WOk other) {s : Sto} (hf : Fl s) {v3 v4 v5 : Option Dv} {d6 : Dv} (h6 : d6 = due2 lots ts one other) {R : Ct → Sto → Prop}
    (hR : ∀ v5 v6, R (.next [some (encS lots), some (.tup (ts.map .int)), some (encS (ordT lots ts)), v3, v4, v5, v6, some (.str one), some (.str other), none]) s) :
    OkE nX (b [some (encS lots), some (.tup (ts.map .int)), some (encS (ordT lots ts)), v3, v4, v5, some d6, some (.str one), some (.str other), none] s) R := by
  subst hb
  subst h6
  unfold bA2i
  have rr : ∀ s : Sto, gRepr [due2 lots ts one other] s = .ok (.str (pd (due2 lots ts one other)).shown) s := fun s => repr_due2 h1 h2
  simp only [ok_ok, kDrop_ap, kRet_ap, kSet_ap, kCons2_ap, kCons_ap, kTup_ap, kLst_ap, kVal_ap, kNew_ap, kBin2_ap, kBin_ap, kUn_ap, kCall_ap, kCallL_ap, kNotT_ap, kAndT_ap, kOrT_ap, kIf_ap, kIfS_ap, kAnd_ap, kOr_ap, kNot_ap, kMt2_ap, kMt_ap, kPut4_ap, kPut3_ap, kPut2_ap, kPut_ap, kExt2_ap, kExt_ap, kAsg2_ap, kAsg_ap, kFor_ap, kLc_ap, kSl3_ap, kSl2_ap, kSl_ap, kGs_ap, ok_seq, sq_next, sq_ret, sq_brk, sq_cont, ok_nop, ok_brk, ok_cont, ok_drop, ok_ret, ok_retN, ok_set, ok_var0, ok_varS, ok_c, ok_nil, ok_cons, ok_tup, ok_lst, ok_val, ok_new, ok_bin, ok_un, ok_call, ok_callL, ok_test, tst_bl, ok_notT, ok_andT, ok_orT, ok_if, ok_ifS, ok_and, ok_or, ok_not, ok_mt, ok_put, ok_extend, pr2_mk, ok_par2, ok_asg, ok_for, ok_lc, ok_yes, ok_noPart, prt_int, ok_part, ok_sl, ok_gNm, ok_gTp, ok_gsN, ok_gsC, rg1_mk, rg2_mk, ok_rng1, ok_rng2, srcK_tup, srcK_ls, ok_src, finK_next, finK_ret, List.set_cons_zero, List.set_cons_succ, List.map_cons, List.map_nil, List.replicate, List.cons_append, List.nil_append, List.length_cons, List.length_nil, Bool.false_eq_true, eq_self, if_true, if_false, Nat.zero_add, okX_non, okX_bl, okX_int, okX_str, okX_tup, okX_ls, okX_loc, true_and]
  refine ok_heard hG hm hp hf ?_
  simp only [ok_ok, kDrop_ap, kRet_ap, kSet_ap, kCons2_ap, kCons_ap, kTup_ap, kLst_ap, kVal_ap, kNew_ap, kBin2_ap, kBin_ap, kUn_ap, kCall_ap, kCallL_ap, kNotT_ap, kAndT_ap, kOrT_ap, kIf_ap, kIfS_ap, kAnd_ap, kOr_ap, kNot_ap, kMt2_ap, kMt_ap, kPut4_ap, kPut3_ap, kPut2_ap, kPut_ap, kExt2_ap, kExt_ap, kAsg2_ap, kAsg_ap, kFor_ap, kLc_ap, kSl3_ap, kSl2_ap, kSl_ap, kGs_ap, ok_seq, sq_next, sq_ret, sq_brk, sq_cont, ok_nop, ok_brk, ok_cont, ok_drop, ok_ret, ok_retN, ok_set, ok_var0, ok_varS, ok_c, ok_nil, ok_cons, ok_tup, ok_lst, ok_val, ok_new, ok_bin, ok_un, ok_call, ok_callL, ok_test, tst_bl, ok_notT, ok_andT, ok_orT, ok_if, ok_ifS, ok_and, ok_or, ok_not, ok_mt, ok_put, ok_extend, pr2_mk, ok_par2, ok_asg, ok_for, ok_lc, ok_yes, ok_noPart, prt_int, ok_part, ok_sl, ok_gNm, ok_gTp, ok_gsN, ok_gsC, rg1_mk, rg2_mk, ok_rng1, ok_rng2, srcK_tup, srcK_ls, ok_src, finK_next, finK_ret, List.set_cons_zero, List.set_cons_succ, List.map_cons, List.map_nil, List.replicate, List.cons_append, List.nil_append, List.length_cons, List.length_nil, Bool.false_eq_true, eq_self, if_true, if_false, Nat.zero_add, okX_non, okX_bl, okX_int, okX_str, okX_tup, okX_ls, okX_loc, true_and, ok_sure]
  refine hX lots ts one other s _ _ hl ht hf (fun i1 i2 => ⟨rfl, ?_⟩) (fun i1 => ⟨rfl, 5, [.str one], due2 lots ts one other, rfl, ?_, ?_⟩) (fun i1 i2 => ⟨rfl, 5, [.str other], due2 lots ts one other, rfl, ?_, ?_⟩)
  · have e : due2 lots ts one other = .tup [.str (Str.ofString "told"), .bl (decide ((plN (ordT lots ts) one : Nat) < (plN (ordT lots ts) other : Nat)))] := by unfold due2; rw [if_pos i1, if_pos i2]
    rw [← e]
    simp only [ok_ok, kDrop_ap, kRet_ap, kSet_ap, kCons2_ap, kCons_ap, kTup_ap, kLst_ap, kVal_ap, kNew_ap, kBin2_ap, kBin_ap, kUn_ap, kCall_ap, kCallL_ap, kNotT_ap, kAndT_ap, kOrT_ap, kIf_ap, kIfS_ap, kAnd_ap, kOr_ap, kNot_ap, kMt2_ap, kMt_ap, kPut4_ap, kPut3_ap, kPut2_ap, kPut_ap, kExt2_ap, kExt_ap, kAsg2_ap, kAsg_ap, kFor_ap, kLc_ap, kSl3_ap, kSl2_ap, kSl_ap, kGs_ap, ok_seq, sq_next, sq_ret, sq_brk, sq_cont, ok_nop, ok_brk, ok_cont, ok_drop, ok_ret, ok_retN, ok_set, ok_var0, ok_varS, ok_c, ok_nil, ok_cons, ok_tup, ok_lst, ok_val, ok_new, ok_bin, ok_un, ok_call, ok_callL, ok_test, tst_bl, ok_notT, ok_andT, ok_orT, ok_if, ok_ifS, ok_and, ok_or, ok_not, ok_mt, ok_put, ok_extend, pr2_mk, ok_par2, ok_asg, ok_for, ok_lc, ok_yes, ok_noPart, prt_int, ok_part, ok_sl, ok_gNm, ok_gTp, ok_gsN, ok_gsC, rg1_mk, rg2_mk, ok_rng1, ok_rng2, srcK_tup, srcK_ls, ok_src, finK_next, finK_ret, List.set_cons_zero, List.set_cons_succ, List.map_cons, List.map_nil, List.replicate, List.cons_append, List.nil_append, List.length_cons, List.length_nil, Bool.false_eq_true, eq_self, if_true, if_false, Nat.zero_add, okX_non, okX_bl, okX_int, okX_str, okX_tup, okX_ls, okX_loc, true_and, rr, ne_str, BEq.rfl, Bool.not_true]
    exact hR _ _
  · unfold due2; rw [if_neg i1]; exact .x5 _
  · simp only [ok_ok, kDrop_ap, kRet_ap, kSet_ap, kCons2_ap, kCons_ap, kTup_ap, kLst_ap, kVal_ap, kNew_ap, kBin2_ap, kBin_ap, kUn_ap, kCall_ap, kCallL_ap, kNotT_ap, kAndT_ap, kOrT_ap, kIf_ap, kIfS_ap, kAnd_ap, kOr_ap, kNot_ap, kMt2_ap, kMt_ap, kPut4_ap, kPut3_ap, kPut2_ap, kPut_ap, kExt2_ap, kExt_ap, kAsg2_ap, kAsg_ap, kFor_ap, kLc_ap, kSl3_ap, kSl2_ap, kSl_ap, kGs_ap, ok_seq, sq_next, sq_ret, sq_brk, sq_cont, ok_nop, ok_brk, ok_cont, ok_drop, ok_ret, ok_retN, ok_set, ok_var0, ok_varS, ok_c, ok_nil, ok_cons, ok_tup, ok_lst, ok_val, ok_new, ok_bin, ok_un, ok_call, ok_callL, ok_test, tst_bl, ok_notT, ok_andT, ok_orT, ok_if, ok_ifS, ok_and, ok_or, ok_not, ok_mt, ok_put, ok_extend, pr2_mk, ok_par2, ok_asg, ok_for, ok_lc, ok_yes, ok_noPart, prt_int, ok_part, ok_sl, ok_gNm, ok_gTp, ok_gsN, ok_gsC, rg1_mk, rg2_mk, ok_rng1, ok_rng2, srcK_tup, srcK_ls, ok_src, finK_next, finK_ret, List.set_cons_zero, List.set_cons_succ, List.map_cons, List.map_nil, List.replicate, List.cons_append, List.nil_append, List.length_cons, List.length_nil, Bool.false_eq_true, eq_self, if_true, if_false, Nat.zero_add, okX_non, okX_bl, okX_int, okX_str, okX_tup, okX_ls, okX_loc, true_and, rr, ne_str, BEq.rfl, Bool.not_true]
    exact hR _ _
  · unfold due2; rw [if_pos i1, if_neg i2]; exact .x5 _
  · simp only [ok_ok, kDrop_ap, kRet_ap, kSet_ap, kCons2_ap, kCons_ap, kTup_ap, kLst_ap, kVal_ap, kNew_ap, kBin2_ap, kBin_ap, kUn_ap, kCall_ap, kCallL_ap, kNotT_ap, kAndT_ap, kOrT_ap, kIf_ap, kIfS_ap, kAnd_ap, kOr_ap, kNot_ap, kMt2_ap, kMt_ap, kPut4_ap, kPut3_ap, kPut2_ap, kPut_ap, kExt2_ap, kExt_ap, kAsg2_ap, kAsg_ap, kFor_ap, kLc_ap, kSl3_ap, kSl2_ap, kSl_ap, kGs_ap, ok_seq, sq_next, sq_ret, sq_brk, sq_cont, ok_nop, ok_brk, ok_cont, ok_drop, ok_ret, ok_retN, ok_set, ok_var0, ok_varS, ok_c, ok_nil, ok_cons, ok_tup, ok_lst, ok_val, ok_new, ok_bin, ok_un, ok_call, ok_callL, ok_test, tst_bl, ok_notT, ok_andT, ok_orT, ok_if, ok_ifS, ok_and, ok_or, ok_not, ok_mt, ok_put, ok_extend, pr2_mk, ok_par2, ok_asg, ok_for, ok_lc, ok_yes, ok_noPart, prt_int, ok_part, ok_sl, ok_gNm, ok_gTp, ok_gsN, ok_gsC, rg1_mk, rg2_mk, ok_rng1, ok_rng2, srcK_tup, srcK_ls, ok_src, finK_next, finK_ret, List.set_cons_zero, List.set_cons_succ, List.map_cons, List.map_nil, List.replicate, List.cons_append, List.nil_append, List.length_cons, List.length_nil, Bool.false_eq_true, eq_self, if_true, if_false, Nat.zero_add, okX_non, okX_bl, okX_int, okX_str, okX_tup, okX_ls, okX_loc, true_and, rr, ne_str, BEq.rfl, Bool.not_true]
    exact hR _ _
theorem a2_spec {prs : Nat → Bool} {m : Nat} {gs : Addr → Addr → Nat → Fn Ct} {φh : Phi} {b bi : Fn Ct} (hb : b = bA2 bi) (hbi : bi = bA2i prs m gs φh) (hG : SuiteS gs) (hm : m = 5) (hp : ∀ cn, cn < 9 → prs cn = true) (hX : AhX φh) {lots : List Str} {ts : List Int} (hl : lots.length ≤ 1000) (ht : ts.length = lots.length) {one other : Str} (h1 : WOk one) (h2 : WOk other) {s : Sto} (hf : Fl s) {v3 v4 v5 v6 : Option Dv} {R : Ct → Sto → Prop}
    (hR : ∀ v5 v6, R (.next [some (encS lots), some (.tup (ts.map .int)), some (encS (ordT lots ts)), v3, v4, v5, v6, some (.str one), some (.str other), none]) s) :
    OkE nX (b [some (encS lots), some (.tup (ts.map .int)), some (encS (ordT lots ts)), v3, v4, v5, v6, some (.str one), some (.str other), none] s) R := by
  subst hb
  unfold bA2
  simp only [ok_ok, kDrop_ap, kRet_ap, kSet_ap, kCons2_ap, kCons_ap, kTup_ap, kLst_ap, kVal_ap, kNew_ap, kBin2_ap, kBin_ap, kUn_ap, kCall_ap, kCallL_ap, kNotT_ap, kAndT_ap, kOrT_ap, kIf_ap, kIfS_ap, kAnd_ap, kOr_ap, kNot_ap, kMt2_ap, kMt_ap, kPut4_ap, kPut3_ap, kPut2_ap, kPut_ap, kExt2_ap, kExt_ap, kAsg2_ap, kAsg_ap, kFor_ap, kLc_ap, kSl3_ap, kSl2_ap, kSl_ap, kGs_ap, ok_seq, sq_next, sq_ret, sq_brk, sq_cont, ok_nop, ok_brk, ok_cont, ok_drop, ok_ret, ok_retN, ok_set, ok_var0, ok_varS, ok_c, ok_nil, ok_cons, ok_tup, ok_lst, ok_val, ok_new, ok_bin, ok_un, ok_call, ok_callL, ok_test, tst_bl, ok_notT, ok_andT, ok_orT, ok_if, ok_ifS, ok_and, ok_or, ok_not, ok_mt, ok_put, ok_extend, pr2_mk, ok_par2, ok_asg, ok_for, ok_lc, ok_yes, ok_noPart, prt_int, ok_part, ok_sl, ok_gNm, ok_gTp, ok_gsN, ok_gsC, rg1_mk, rg2_mk, ok_rng1, ok_rng2, srcK_tup, srcK_ls, ok_src, finK_next, finK_ret, List.set_cons_zero, List.set_cons_succ, List.map_cons, List.map_nil, List.replicate, List.cons_append, List.nil_append, List.length_cons, List.length_nil, Bool.false_eq_true, eq_self, if_true, if_false, Nat.zero_add, okX_non, okX_bl, okX_int, okX_str, okX_tup, okX_ls, okX_loc, true_and]
  refine ⟨by decide, by decide, ?_⟩
  refine ok_pick (xs := [one, other]) (enc := Dv.str) (p := fun w => !decide (w ∈ lots)) (f := Dv.str) (fun w hw => ?_) ?_
  · simp only [ok_ok, kDrop_ap, kRet_ap, kSet_ap, kCons2_ap, kCons_ap, kTup_ap, kLst_ap, kVal_ap, kNew_ap, kBin2_ap, kBin_ap, kUn_ap, kCall_ap, kCallL_ap, kNotT_ap, kAndT_ap, kOrT_ap, kIf_ap, kIfS_ap, kAnd_ap, kOr_ap, kNot_ap, kMt2_ap, kMt_ap, kPut4_ap, kPut3_ap, kPut2_ap, kPut_ap, kExt2_ap, kExt_ap, kAsg2_ap, kAsg_ap, kFor_ap, kLc_ap, kSl3_ap, kSl2_ap, kSl_ap, kGs_ap, ok_seq, sq_next, sq_ret, sq_brk, sq_cont, ok_nop, ok_brk, ok_cont, ok_drop, ok_ret, ok_retN, ok_set, ok_var0, ok_varS, ok_c, ok_nil, ok_cons, ok_tup, ok_lst, ok_val, ok_new, ok_bin, ok_un, ok_call, ok_callL, ok_test, tst_bl, ok_notT, ok_andT, ok_orT, ok_if, ok_ifS, ok_and, ok_or, ok_not, ok_mt, ok_put, ok_extend, pr2_mk, ok_par2, ok_asg, ok_for, ok_lc, ok_yes, ok_noPart, prt_int, ok_part, ok_sl, ok_gNm, ok_gTp, ok_gsN, ok_gsC, rg1_mk, rg2_mk, ok_rng1, ok_rng2, srcK_tup, srcK_ls, ok_src, finK_next, finK_ret, List.set_cons_zero, List.set_cons_succ, List.map_cons, List.map_nil, List.replicate, List.cons_append, List.nil_append, List.length_cons, List.length_nil, Bool.false_eq_true, eq_self, if_true, if_false, Nat.zero_add, okX_non, okX_bl, okX_int, okX_str, okX_tup, okX_ls, okX_loc, true_and, wipeZ, notin_strs]
    first | exact fun _ => trivial | exact ⟨rfl, fun _ => trivial⟩ | trivial
  have oks : ∀ w ∈ [one, other], WOk w := fun w hw => by
    rcases List.mem_cons.mp hw with e | e
    · rw [e]; exact h1
    · rw [List.mem_singleton.mp e]; exact h2
  have ne : ∀ (ws : List Str), (∀ w ∈ ws, WOk w) → ∀ s : Sto, gNe (.ls (ws.map .str)) (.ls []) s = .ok (.bl (!ws.isEmpty)) s := fun ws hws s => by
    have := neL_nil (n := 1) (ds := ws.map .str) (gbs_all fun d hd => by
      obtain ⟨w, hw, rfl⟩ := List.mem_map.mp hd
      exact gb_str.mpr ⟨(hws w hw).1, by have := (hws w hw).2; omega⟩) (by decide) (s := s)
    rw [this, List.isEmpty_map]
  by_cases i1 : one ∈ lots
  · by_cases i2 : other ∈ lots
    · rw [show [one, other].filter (fun w => !decide (w ∈ lots)) = [] by simp [i1, i2]]
      have m1 : one ∈ ordT lots ts := (ordS_perm _ _).mem_iff.mpr i1
      have m2 : other ∈ ordT lots ts := (ordS_perm _ _).mem_iff.mpr i2
      have en : ∀ s : Sto, gNe (.ls []) (.ls []) s = .ok (.bl false) s := fun s => ne [] (fun w hw => absurd hw List.not_mem_nil) s
      simp only [ok_ok, kDrop_ap, kRet_ap, kSet_ap, kCons2_ap, kCons_ap, kTup_ap, kLst_ap, kVal_ap, kNew_ap, kBin2_ap, kBin_ap, kUn_ap, kCall_ap, kCallL_ap, kNotT_ap, kAndT_ap, kOrT_ap, kIf_ap, kIfS_ap, kAnd_ap, kOr_ap, kNot_ap, kMt2_ap, kMt_ap, kPut4_ap, kPut3_ap, kPut2_ap, kPut_ap, kExt2_ap, kExt_ap, kAsg2_ap, kAsg_ap, kFor_ap, kLc_ap, kSl3_ap, kSl2_ap, kSl_ap, kGs_ap, ok_seq, sq_next, sq_ret, sq_brk, sq_cont, ok_nop, ok_brk, ok_cont, ok_drop, ok_ret, ok_retN, ok_set, ok_var0, ok_varS, ok_c, ok_nil, ok_cons, ok_tup, ok_lst, ok_val, ok_new, ok_bin, ok_un, ok_call, ok_callL, ok_test, tst_bl, ok_notT, ok_andT, ok_orT, ok_if, ok_ifS, ok_and, ok_or, ok_not, ok_mt, ok_put, ok_extend, pr2_mk, ok_par2, ok_asg, ok_for, ok_lc, ok_yes, ok_noPart, prt_int, ok_part, ok_sl, ok_gNm, ok_gTp, ok_gsN, ok_gsC, rg1_mk, rg2_mk, ok_rng1, ok_rng2, srcK_tup, srcK_ls, ok_src, finK_next, finK_ret, List.set_cons_zero, List.set_cons_succ, List.map_cons, List.map_nil, List.replicate, List.cons_append, List.nil_append, List.length_cons, List.length_nil, Bool.false_eq_true, eq_self, if_true, if_false, Nat.zero_add, okX_non, okX_bl, okX_int, okX_str, okX_tup, okX_ls, okX_loc, true_and]
      try refine ⟨by decide, ?_⟩
      try simp only [ok_ok, kDrop_ap, kRet_ap, kSet_ap, kCons2_ap, kCons_ap, kTup_ap, kLst_ap, kVal_ap, kNew_ap, kBin2_ap, kBin_ap, kUn_ap, kCall_ap, kCallL_ap, kNotT_ap, kAndT_ap, kOrT_ap, kIf_ap, kIfS_ap, kAnd_ap, kOr_ap, kNot_ap, kMt2_ap, kMt_ap, kPut4_ap, kPut3_ap, kPut2_ap, kPut_ap, kExt2_ap, kExt_ap, kAsg2_ap, kAsg_ap, kFor_ap, kLc_ap, kSl3_ap, kSl2_ap, kSl_ap, kGs_ap, ok_seq, sq_next, sq_ret, sq_brk, sq_cont, ok_nop, ok_brk, ok_cont, ok_drop, ok_ret, ok_retN, ok_set, ok_var0, ok_varS, ok_c, ok_nil, ok_cons, ok_tup, ok_lst, ok_val, ok_new, ok_bin, ok_un, ok_call, ok_callL, ok_test, tst_bl, ok_notT, ok_andT, ok_orT, ok_if, ok_ifS, ok_and, ok_or, ok_not, ok_mt, ok_put, ok_extend, pr2_mk, ok_par2, ok_asg, ok_for, ok_lc, ok_yes, ok_noPart, prt_int, ok_part, ok_sl, ok_gNm, ok_gTp, ok_gsN, ok_gsC, rg1_mk, rg2_mk, ok_rng1, ok_rng2, srcK_tup, srcK_ls, ok_src, finK_next, finK_ret, List.set_cons_zero, List.set_cons_succ, List.map_cons, List.map_nil, List.replicate, List.cons_append, List.nil_append, List.length_cons, List.length_nil, Bool.false_eq_true, eq_self, if_true, if_false, Nat.zero_add, okX_non, okX_bl, okX_int, okX_str, okX_tup, okX_ls, okX_loc, true_and, en]
      try rw [en, ok_ok]
      try simp only [ok_ok, kDrop_ap, kRet_ap, kSet_ap, kCons2_ap, kCons_ap, kTup_ap, kLst_ap, kVal_ap, kNew_ap, kBin2_ap, kBin_ap, kUn_ap, kCall_ap, kCallL_ap, kNotT_ap, kAndT_ap, kOrT_ap, kIf_ap, kIfS_ap, kAnd_ap, kOr_ap, kNot_ap, kMt2_ap, kMt_ap, kPut4_ap, kPut3_ap, kPut2_ap, kPut_ap, kExt2_ap, kExt_ap, kAsg2_ap, kAsg_ap, kFor_ap, kLc_ap, kSl3_ap, kSl2_ap, kSl_ap, kGs_ap, ok_seq, sq_next, sq_ret, sq_brk, sq_cont, ok_nop, ok_brk, ok_cont, ok_drop, ok_ret, ok_retN, ok_set, ok_var0, ok_varS, ok_c, ok_nil, ok_cons, ok_tup, ok_lst, ok_val, ok_new, ok_bin, ok_un, ok_call, ok_callL, ok_test, tst_bl, ok_notT, ok_andT, ok_orT, ok_if, ok_ifS, ok_and, ok_or, ok_not, ok_mt, ok_put, ok_extend, pr2_mk, ok_par2, ok_asg, ok_for, ok_lc, ok_yes, ok_noPart, prt_int, ok_part, ok_sl, ok_gNm, ok_gTp, ok_gsN, ok_gsC, rg1_mk, rg2_mk, ok_rng1, ok_rng2, srcK_tup, srcK_ls, ok_src, finK_next, finK_ret, List.set_cons_zero, List.set_cons_succ, List.map_cons, List.map_nil, List.replicate, List.cons_append, List.nil_append, List.length_cons, List.length_nil, Bool.false_eq_true, eq_self, if_true, if_false, Nat.zero_add, okX_non, okX_bl, okX_int, okX_str, okX_tup, okX_ls, okX_loc, true_and]
      refine ok_indexN (xs := ordT lots ts) (z := one) rfl rfl m1 ?_
      simp only [ok_ok, kDrop_ap, kRet_ap, kSet_ap, kCons2_ap, kCons_ap, kTup_ap, kLst_ap, kVal_ap, kNew_ap, kBin2_ap, kBin_ap, kUn_ap, kCall_ap, kCallL_ap, kNotT_ap, kAndT_ap, kOrT_ap, kIf_ap, kIfS_ap, kAnd_ap, kOr_ap, kNot_ap, kMt2_ap, kMt_ap, kPut4_ap, kPut3_ap, kPut2_ap, kPut_ap, kExt2_ap, kExt_ap, kAsg2_ap, kAsg_ap, kFor_ap, kLc_ap, kSl3_ap, kSl2_ap, kSl_ap, kGs_ap, ok_seq, sq_next, sq_ret, sq_brk, sq_cont, ok_nop, ok_brk, ok_cont, ok_drop, ok_ret, ok_retN, ok_set, ok_var0, ok_varS, ok_c, ok_nil, ok_cons, ok_tup, ok_lst, ok_val, ok_new, ok_bin, ok_un, ok_call, ok_callL, ok_test, tst_bl, ok_notT, ok_andT, ok_orT, ok_if, ok_ifS, ok_and, ok_or, ok_not, ok_mt, ok_put, ok_extend, pr2_mk, ok_par2, ok_asg, ok_for, ok_lc, ok_yes, ok_noPart, prt_int, ok_part, ok_sl, ok_gNm, ok_gTp, ok_gsN, ok_gsC, rg1_mk, rg2_mk, ok_rng1, ok_rng2, srcK_tup, srcK_ls, ok_src, finK_next, finK_ret, List.set_cons_zero, List.set_cons_succ, List.map_cons, List.map_nil, List.replicate, List.cons_append, List.nil_append, List.length_cons, List.length_nil, Bool.false_eq_true, eq_self, if_true, if_false, Nat.zero_add, okX_non, okX_bl, okX_int, okX_str, okX_tup, okX_ls, okX_loc, true_and]
      refine ok_indexN (xs := ordT lots ts) (z := other) rfl rfl m2 ?_
      simp only [ok_ok, kDrop_ap, kRet_ap, kSet_ap, kCons2_ap, kCons_ap, kTup_ap, kLst_ap, kVal_ap, kNew_ap, kBin2_ap, kBin_ap, kUn_ap, kCall_ap, kCallL_ap, kNotT_ap, kAndT_ap, kOrT_ap, kIf_ap, kIfS_ap, kAnd_ap, kOr_ap, kNot_ap, kMt2_ap, kMt_ap, kPut4_ap, kPut3_ap, kPut2_ap, kPut_ap, kExt2_ap, kExt_ap, kAsg2_ap, kAsg_ap, kFor_ap, kLc_ap, kSl3_ap, kSl2_ap, kSl_ap, kGs_ap, ok_seq, sq_next, sq_ret, sq_brk, sq_cont, ok_nop, ok_brk, ok_cont, ok_drop, ok_ret, ok_retN, ok_set, ok_var0, ok_varS, ok_c, ok_nil, ok_cons, ok_tup, ok_lst, ok_val, ok_new, ok_bin, ok_un, ok_call, ok_callL, ok_test, tst_bl, ok_notT, ok_andT, ok_orT, ok_if, ok_ifS, ok_and, ok_or, ok_not, ok_mt, ok_put, ok_extend, pr2_mk, ok_par2, ok_asg, ok_for, ok_lc, ok_yes, ok_noPart, prt_int, ok_part, ok_sl, ok_gNm, ok_gTp, ok_gsN, ok_gsC, rg1_mk, rg2_mk, ok_rng1, ok_rng2, srcK_tup, srcK_ls, ok_src, finK_next, finK_ret, List.set_cons_zero, List.set_cons_succ, List.map_cons, List.map_nil, List.replicate, List.cons_append, List.nil_append, List.length_cons, List.length_nil, Bool.false_eq_true, eq_self, if_true, if_false, Nat.zero_add, okX_non, okX_bl, okX_int, okX_str, okX_tup, okX_ls, okX_loc, true_and, lt_int]
      try refine ⟨by decide, ?_⟩
      rw [show decide (((plN (ordT lots ts) one : Nat) : Int) < ((plN (ordT lots ts) other : Nat) : Int)) = decide ((plN (ordT lots ts) one : Nat) < (plN (ordT lots ts) other : Nat)) by simp]
      exact a2i_spec hbi hG hm hp hX hl ht h1 h2 hf (by unfold due2; rw [if_pos i1, if_pos i2]) hR
    · rw [show [one, other].filter (fun w => !decide (w ∈ lots)) = [other] by simp [i1, i2]]
      have en : ∀ s : Sto, gNe (.ls [.str other]) (.ls []) s = .ok (.bl true) s := fun s => ne [other] (fun w hw => by rw [List.mem_singleton.mp hw]; exact h2) s
      have e0 : ∀ s : Sto, gIx (.ls [.str other]) (.int 0) s = .ok (.str other) s := fun _ => rfl
      simp only [ok_ok, kDrop_ap, kRet_ap, kSet_ap, kCons2_ap, kCons_ap, kTup_ap, kLst_ap, kVal_ap, kNew_ap, kBin2_ap, kBin_ap, kUn_ap, kCall_ap, kCallL_ap, kNotT_ap, kAndT_ap, kOrT_ap, kIf_ap, kIfS_ap, kAnd_ap, kOr_ap, kNot_ap, kMt2_ap, kMt_ap, kPut4_ap, kPut3_ap, kPut2_ap, kPut_ap, kExt2_ap, kExt_ap, kAsg2_ap, kAsg_ap, kFor_ap, kLc_ap, kSl3_ap, kSl2_ap, kSl_ap, kGs_ap, ok_seq, sq_next, sq_ret, sq_brk, sq_cont, ok_nop, ok_brk, ok_cont, ok_drop, ok_ret, ok_retN, ok_set, ok_var0, ok_varS, ok_c, ok_nil, ok_cons, ok_tup, ok_lst, ok_val, ok_new, ok_bin, ok_un, ok_call, ok_callL, ok_test, tst_bl, ok_notT, ok_andT, ok_orT, ok_if, ok_ifS, ok_and, ok_or, ok_not, ok_mt, ok_put, ok_extend, pr2_mk, ok_par2, ok_asg, ok_for, ok_lc, ok_yes, ok_noPart, prt_int, ok_part, ok_sl, ok_gNm, ok_gTp, ok_gsN, ok_gsC, rg1_mk, rg2_mk, ok_rng1, ok_rng2, srcK_tup, srcK_ls, ok_src, finK_next, finK_ret, List.set_cons_zero, List.set_cons_succ, List.map_cons, List.map_nil, List.replicate, List.cons_append, List.nil_append, List.length_cons, List.length_nil, Bool.false_eq_true, eq_self, if_true, if_false, Nat.zero_add, okX_non, okX_bl, okX_int, okX_str, okX_tup, okX_ls, okX_loc, true_and]
      try refine ⟨by decide, ?_⟩
      try simp only [ok_ok, kDrop_ap, kRet_ap, kSet_ap, kCons2_ap, kCons_ap, kTup_ap, kLst_ap, kVal_ap, kNew_ap, kBin2_ap, kBin_ap, kUn_ap, kCall_ap, kCallL_ap, kNotT_ap, kAndT_ap, kOrT_ap, kIf_ap, kIfS_ap, kAnd_ap, kOr_ap, kNot_ap, kMt2_ap, kMt_ap, kPut4_ap, kPut3_ap, kPut2_ap, kPut_ap, kExt2_ap, kExt_ap, kAsg2_ap, kAsg_ap, kFor_ap, kLc_ap, kSl3_ap, kSl2_ap, kSl_ap, kGs_ap, ok_seq, sq_next, sq_ret, sq_brk, sq_cont, ok_nop, ok_brk, ok_cont, ok_drop, ok_ret, ok_retN, ok_set, ok_var0, ok_varS, ok_c, ok_nil, ok_cons, ok_tup, ok_lst, ok_val, ok_new, ok_bin, ok_un, ok_call, ok_callL, ok_test, tst_bl, ok_notT, ok_andT, ok_orT, ok_if, ok_ifS, ok_and, ok_or, ok_not, ok_mt, ok_put, ok_extend, pr2_mk, ok_par2, ok_asg, ok_for, ok_lc, ok_yes, ok_noPart, prt_int, ok_part, ok_sl, ok_gNm, ok_gTp, ok_gsN, ok_gsC, rg1_mk, rg2_mk, ok_rng1, ok_rng2, srcK_tup, srcK_ls, ok_src, finK_next, finK_ret, List.set_cons_zero, List.set_cons_succ, List.map_cons, List.map_nil, List.replicate, List.cons_append, List.nil_append, List.length_cons, List.length_nil, Bool.false_eq_true, eq_self, if_true, if_false, Nat.zero_add, okX_non, okX_bl, okX_int, okX_str, okX_tup, okX_ls, okX_loc, true_and, en, e0]
      try rw [en, ok_ok]
      try simp only [ok_ok, kDrop_ap, kRet_ap, kSet_ap, kCons2_ap, kCons_ap, kTup_ap, kLst_ap, kVal_ap, kNew_ap, kBin2_ap, kBin_ap, kUn_ap, kCall_ap, kCallL_ap, kNotT_ap, kAndT_ap, kOrT_ap, kIf_ap, kIfS_ap, kAnd_ap, kOr_ap, kNot_ap, kMt2_ap, kMt_ap, kPut4_ap, kPut3_ap, kPut2_ap, kPut_ap, kExt2_ap, kExt_ap, kAsg2_ap, kAsg_ap, kFor_ap, kLc_ap, kSl3_ap, kSl2_ap, kSl_ap, kGs_ap, ok_seq, sq_next, sq_ret, sq_brk, sq_cont, ok_nop, ok_brk, ok_cont, ok_drop, ok_ret, ok_retN, ok_set, ok_var0, ok_varS, ok_c, ok_nil, ok_cons, ok_tup, ok_lst, ok_val, ok_new, ok_bin, ok_un, ok_call, ok_callL, ok_test, tst_bl, ok_notT, ok_andT, ok_orT, ok_if, ok_ifS, ok_and, ok_or, ok_not, ok_mt, ok_put, ok_extend, pr2_mk, ok_par2, ok_asg, ok_for, ok_lc, ok_yes, ok_noPart, prt_int, ok_part, ok_sl, ok_gNm, ok_gTp, ok_gsN, ok_gsC, rg1_mk, rg2_mk, ok_rng1, ok_rng2, srcK_tup, srcK_ls, ok_src, finK_next, finK_ret, List.set_cons_zero, List.set_cons_succ, List.map_cons, List.map_nil, List.replicate, List.cons_append, List.nil_append, List.length_cons, List.length_nil, Bool.false_eq_true, eq_self, if_true, if_false, Nat.zero_add, okX_non, okX_bl, okX_int, okX_str, okX_tup, okX_ls, okX_loc, true_and, e0]
      try refine ⟨by decide, ?_⟩
      exact a2i_spec hbi hG hm hp hX hl ht h1 h2 hf (by unfold due2; rw [if_pos i1, if_neg i2]) hR
  · obtain ⟨r, hr, hrw⟩ : ∃ r, [one, other].filter (fun w => !decide (w ∈ lots)) = one :: r ∧ ∀ w ∈ one :: r, WOk w := by
      refine ⟨[other].filter fun w => !decide (w ∈ lots), by rw [List.filter_cons_of_pos (by simp [i1])], fun w hw => ?_⟩
      rcases List.mem_cons.mp hw with e | e
      · rw [e]; exact h1
      · rw [List.mem_singleton.mp (List.mem_filter.mp e).1]; exact h2
    rw [hr]
    have en : ∀ s : Sto, gNe (.ls (.str one :: r.map .str)) (.ls []) s = .ok (.bl true) s := fun s => ne (one :: r) hrw s
    have e0 : ∀ s : Sto, gIx (.ls (.str one :: r.map .str)) (.int 0) s = .ok (.str one) s := fun s => ix_ls (by decide) rfl
    simp only [ok_ok, kDrop_ap, kRet_ap, kSet_ap, kCons2_ap, kCons_ap, kTup_ap, kLst_ap, kVal_ap, kNew_ap, kBin2_ap, kBin_ap, kUn_ap, kCall_ap, kCallL_ap, kNotT_ap, kAndT_ap, kOrT_ap, kIf_ap, kIfS_ap, kAnd_ap, kOr_ap, kNot_ap, kMt2_ap, kMt_ap, kPut4_ap, kPut3_ap, kPut2_ap, kPut_ap, kExt2_ap, kExt_ap, kAsg2_ap, kAsg_ap, kFor_ap, kLc_ap, kSl3_ap, kSl2_ap, kSl_ap, kGs_ap, ok_seq, sq_next, sq_ret, sq_brk, sq_cont, ok_nop, ok_brk, ok_cont, ok_drop, ok_ret, ok_retN, ok_set, ok_var0, ok_varS, ok_c, ok_nil, ok_cons, ok_tup, ok_lst, ok_val, ok_new, ok_bin, ok_un, ok_call, ok_callL, ok_test, tst_bl, ok_notT, ok_andT, ok_orT, ok_if, ok_ifS, ok_and, ok_or, ok_not, ok_mt, ok_put, ok_extend, pr2_mk, ok_par2, ok_asg, ok_for, ok_lc, ok_yes, ok_noPart, prt_int, ok_part, ok_sl, ok_gNm, ok_gTp, ok_gsN, ok_gsC, rg1_mk, rg2_mk, ok_rng1, ok_rng2, srcK_tup, srcK_ls, ok_src, finK_next, finK_ret, List.set_cons_zero, List.set_cons_succ, List.map_cons, List.map_nil, List.replicate, List.cons_append, List.nil_append, List.length_cons, List.length_nil, Bool.false_eq_true, eq_self, if_true, if_false, Nat.zero_add, okX_non, okX_bl, okX_int, okX_str, okX_tup, okX_ls, okX_loc, true_and, List.map_cons]
    try refine ⟨by decide, ?_⟩
    try simp only [ok_ok, kDrop_ap, kRet_ap, kSet_ap, kCons2_ap, kCons_ap, kTup_ap, kLst_ap, kVal_ap, kNew_ap, kBin2_ap, kBin_ap, kUn_ap, kCall_ap, kCallL_ap, kNotT_ap, kAndT_ap, kOrT_ap, kIf_ap, kIfS_ap, kAnd_ap, kOr_ap, kNot_ap, kMt2_ap, kMt_ap, kPut4_ap, kPut3_ap, kPut2_ap, kPut_ap, kExt2_ap, kExt_ap, kAsg2_ap, kAsg_ap, kFor_ap, kLc_ap, kSl3_ap, kSl2_ap, kSl_ap, kGs_ap, ok_seq, sq_next, sq_ret, sq_brk, sq_cont, ok_nop, ok_brk, ok_cont, ok_drop, ok_ret, ok_retN, ok_set, ok_var0, ok_varS, ok_c, ok_nil, ok_cons, ok_tup, ok_lst, ok_val, ok_new, ok_bin, ok_un, ok_call, ok_callL, ok_test, tst_bl, ok_notT, ok_andT, ok_orT, ok_if, ok_ifS, ok_and, ok_or, ok_not, ok_mt, ok_put, ok_extend, pr2_mk, ok_par2, ok_asg, ok_for, ok_lc, ok_yes, ok_noPart, prt_int, ok_part, ok_sl, ok_gNm, ok_gTp, ok_gsN, ok_gsC, rg1_mk, rg2_mk, ok_rng1, ok_rng2, srcK_tup, srcK_ls, ok_src, finK_next, finK_ret, List.set_cons_zero, List.set_cons_succ, List.map_cons, List.map_nil, List.replicate, List.cons_append, List.nil_append, List.length_cons, List.length_nil, Bool.false_eq_true, eq_self, if_true, if_false, Nat.zero_add, okX_non, okX_bl, okX_int, okX_str, okX_tup, okX_ls, okX_loc, true_and, en, e0]
    try rw [en, ok_ok]
    try simp only [ok_ok, kDrop_ap, kRet_ap, kSet_ap, kCons2_ap, kCons_ap, kTup_ap, kLst_ap, kVal_ap, kNew_ap, kBin2_ap, kBin_ap, kUn_ap, kCall_ap, kCallL_ap, kNotT_ap, kAndT_ap, kOrT_ap, kIf_ap, kIfS_ap, kAnd_ap, kOr_ap, kNot_ap, kMt2_ap, kMt_ap, kPut4_ap, kPut3_ap, kPut2_ap, kPut_ap, kExt2_ap, kExt_ap, kAsg2_ap, kAsg_ap, kFor_ap, kLc_ap, kSl3_ap, kSl2_ap, kSl_ap, kGs_ap, ok_seq, sq_next, sq_ret, sq_brk, sq_cont, ok_nop, ok_brk, ok_cont, ok_drop, ok_ret, ok_retN, ok_set, ok_var0, ok_varS, ok_c, ok_nil, ok_cons, ok_tup, ok_lst, ok_val, ok_new, ok_bin, ok_un, ok_call, ok_callL, ok_test, tst_bl, ok_notT, ok_andT, ok_orT, ok_if, ok_ifS, ok_and, ok_or, ok_not, ok_mt, ok_put, ok_extend, pr2_mk, ok_par2, ok_asg, ok_for, ok_lc, ok_yes, ok_noPart, prt_int, ok_part, ok_sl, ok_gNm, ok_gTp, ok_gsN, ok_gsC, rg1_mk, rg2_mk, ok_rng1, ok_rng2, srcK_tup, srcK_ls, ok_src, finK_next, finK_ret, List.set_cons_zero, List.set_cons_succ, List.map_cons, List.map_nil, List.replicate, List.cons_append, List.nil_append, List.length_cons, List.length_nil, Bool.false_eq_true, eq_self, if_true, if_false, Nat.zero_add, okX_non, okX_bl, okX_int, okX_str, okX_tup, okX_ls, okX_loc, true_and, e0]
    try refine ⟨by decide, ?_⟩
    exact a2i_spec hbi hG hm hp hX hl ht h1 h2 hf (by unfold due2; rw [if_neg i1]) hR
end Z

namespace Z
open PySem PySem.Spec L2

theorem gb_encSQ {xs : List Str} (h : ∀ x ∈ xs, PyData.strOk x = true ∧ x.cps.size ≤ 8) : gb 2 (encS xs) = true ∧ wb (encS xs) ≤ xs.length * 9 := by
  refine ⟨?_, ?_⟩
  · unfold encS; rw [gb_tup]
    refine gbs_all fun d hd => ?_
    obtain ⟨x, hx, rfl⟩ := List.mem_map.mp hd
    have := h x hx
    exact gb_str.mpr ⟨this.1, by omega⟩
  · unfold encS; rw [wb_tup]
    exact wbs_le (f := Dv.str) fun x hx => by simp only [wb]; exact (h x hx).2
noncomputable def bA1i (prs : Nat → Bool) (m : Nat) (gs : Addr → Addr → Nat → Fn Ct) (φp : Phi) : Fn Ct := (fIfS (fTest (fBin gNe (fCall gRepr (fCons (fHeard prs m gs (fCall φp (fSure (fCons (fVar 0) (fCons (fVar 1) (fCons (fVar 7) (fNil))))))) (fNil))) (fCall gRepr (fCons (fVar 4) (fNil))))) (fRet (fC (.bl false))) (fNop))
theorem a1i_spec {prs : Nat → Bool} {m : Nat} {gs : Addr → Addr → Nat → Fn Ct} {φp : Phi} {b : Fn Ct} (hb : b = bA1i prs m gs φp) (hG : SuiteS gs) (hm : m = 5) (hp : ∀ cn, cn < 9 → prs cn = true) (hX : PlX φp) {lots : List Str} {ts : List Int} (hl : lots.length ≤ 1000) (ht : ts.length = lots.length) {one : Str} (h1 : WOk one) {s : Sto} (hf : Fl s) {v2 v3 v5 v6 v8 : Option Dv} {d4 : Dv} (h4 : d4 = due1 lots ts one) {R : Ct → Sto → Prop}
    (hR : R (.next [some (encS lots), some (.tup (ts.map .int)), v2, v3, some d4, v5, v6, some (.str one), v8, none]) s) :
    OkE nX (b [some (encS lots), some (.tup (ts.map .int)), v2, v3, some d4, v5, v6, some (.str one), v8, none] s) R := by
  subst hb
  subst h4
  unfold bA1i
  have rr : ∀ s : Sto, gRepr [due1 lots ts one] s = .ok (.str (pd (due1 lots ts one)).shown) s := fun s => repr_due1 hl h1
  simp only [ok_ok, kDrop_ap, kRet_ap, kSet_ap, kCons2_ap, kCons_ap, kTup_ap, kLst_ap, kVal_ap, kNew_ap, kBin2_ap, kBin_ap, kUn_ap, kCall_ap, kCallL_ap, kNotT_ap, kAndT_ap, kOrT_ap, kIf_ap, kIfS_ap, kAnd_ap, kOr_ap, kNot_ap, kMt2_ap, kMt_ap, kPut4_ap, kPut3_ap, kPut2_ap, kPut_ap, kExt2_ap, kExt_ap, kAsg2_ap, kAsg_ap, kFor_ap, kLc_ap, kSl3_ap, kSl2_ap, kSl_ap, kGs_ap, ok_seq, sq_next, sq_ret, sq_brk, sq_cont, ok_nop, ok_brk, ok_cont, ok_drop, ok_ret, ok_retN, ok_set, ok_var0, ok_varS, ok_c, ok_nil, ok_cons, ok_tup, ok_lst, ok_val, ok_new, ok_bin, ok_un, ok_call, ok_callL, ok_test, tst_bl, ok_notT, ok_andT, ok_orT, ok_if, ok_ifS, ok_and, ok_or, ok_not, ok_mt, ok_put, ok_extend, pr2_mk, ok_par2, ok_asg, ok_for, ok_lc, ok_yes, ok_noPart, prt_int, ok_part, ok_sl, ok_gNm, ok_gTp, ok_gsN, ok_gsC, rg1_mk, rg2_mk, ok_rng1, ok_rng2, srcK_tup, srcK_ls, ok_src, finK_next, finK_ret, List.set_cons_zero, List.set_cons_succ, List.map_cons, List.map_nil, List.replicate, List.cons_append, List.nil_append, List.length_cons, List.length_nil, Bool.false_eq_true, eq_self, if_true, if_false, Nat.zero_add, okX_non, okX_bl, okX_int, okX_str, okX_tup, okX_ls, okX_loc, true_and]
  refine ok_heard hG hm hp hf ?_
  simp only [ok_ok, kDrop_ap, kRet_ap, kSet_ap, kCons2_ap, kCons_ap, kTup_ap, kLst_ap, kVal_ap, kNew_ap, kBin2_ap, kBin_ap, kUn_ap, kCall_ap, kCallL_ap, kNotT_ap, kAndT_ap, kOrT_ap, kIf_ap, kIfS_ap, kAnd_ap, kOr_ap, kNot_ap, kMt2_ap, kMt_ap, kPut4_ap, kPut3_ap, kPut2_ap, kPut_ap, kExt2_ap, kExt_ap, kAsg2_ap, kAsg_ap, kFor_ap, kLc_ap, kSl3_ap, kSl2_ap, kSl_ap, kGs_ap, ok_seq, sq_next, sq_ret, sq_brk, sq_cont, ok_nop, ok_brk, ok_cont, ok_drop, ok_ret, ok_retN, ok_set, ok_var0, ok_varS, ok_c, ok_nil, ok_cons, ok_tup, ok_lst, ok_val, ok_new, ok_bin, ok_un, ok_call, ok_callL, ok_test, tst_bl, ok_notT, ok_andT, ok_orT, ok_if, ok_ifS, ok_and, ok_or, ok_not, ok_mt, ok_put, ok_extend, pr2_mk, ok_par2, ok_asg, ok_for, ok_lc, ok_yes, ok_noPart, prt_int, ok_part, ok_sl, ok_gNm, ok_gTp, ok_gsN, ok_gsC, rg1_mk, rg2_mk, ok_rng1, ok_rng2, srcK_tup, srcK_ls, ok_src, finK_next, finK_ret, List.set_cons_zero, List.set_cons_succ, List.map_cons, List.map_nil, List.replicate, List.cons_append, List.nil_append, List.length_cons, List.length_nil, Bool.false_eq_true, eq_self, if_true, if_false, Nat.zero_add, okX_non, okX_bl, okX_int, okX_str, okX_tup, okX_ls, okX_loc, true_and, ok_sure]
  refine hX lots ts one s _ _ hl ht hf (fun i1 => ⟨rfl, ?_⟩) (fun i1 => ⟨rfl, 5, [.str one], due1 lots ts one, rfl, ?_, ?_⟩)
  · have e : due1 lots ts one = .tup [.str (Str.ofString "told"), .int (plN (ordT lots ts) one : Nat)] := by unfold due1; rw [if_pos i1]
    rw [← e]
    simp only [ok_ok, kDrop_ap, kRet_ap, kSet_ap, kCons2_ap, kCons_ap, kTup_ap, kLst_ap, kVal_ap, kNew_ap, kBin2_ap, kBin_ap, kUn_ap, kCall_ap, kCallL_ap, kNotT_ap, kAndT_ap, kOrT_ap, kIf_ap, kIfS_ap, kAnd_ap, kOr_ap, kNot_ap, kMt2_ap, kMt_ap, kPut4_ap, kPut3_ap, kPut2_ap, kPut_ap, kExt2_ap, kExt_ap, kAsg2_ap, kAsg_ap, kFor_ap, kLc_ap, kSl3_ap, kSl2_ap, kSl_ap, kGs_ap, ok_seq, sq_next, sq_ret, sq_brk, sq_cont, ok_nop, ok_brk, ok_cont, ok_drop, ok_ret, ok_retN, ok_set, ok_var0, ok_varS, ok_c, ok_nil, ok_cons, ok_tup, ok_lst, ok_val, ok_new, ok_bin, ok_un, ok_call, ok_callL, ok_test, tst_bl, ok_notT, ok_andT, ok_orT, ok_if, ok_ifS, ok_and, ok_or, ok_not, ok_mt, ok_put, ok_extend, pr2_mk, ok_par2, ok_asg, ok_for, ok_lc, ok_yes, ok_noPart, prt_int, ok_part, ok_sl, ok_gNm, ok_gTp, ok_gsN, ok_gsC, rg1_mk, rg2_mk, ok_rng1, ok_rng2, srcK_tup, srcK_ls, ok_src, finK_next, finK_ret, List.set_cons_zero, List.set_cons_succ, List.map_cons, List.map_nil, List.replicate, List.cons_append, List.nil_append, List.length_cons, List.length_nil, Bool.false_eq_true, eq_self, if_true, if_false, Nat.zero_add, okX_non, okX_bl, okX_int, okX_str, okX_tup, okX_ls, okX_loc, true_and, rr, ne_str, BEq.rfl, Bool.not_true]
    exact hR
  · unfold due1; rw [if_neg i1]; exact .x5 _
  · simp only [ok_ok, kDrop_ap, kRet_ap, kSet_ap, kCons2_ap, kCons_ap, kTup_ap, kLst_ap, kVal_ap, kNew_ap, kBin2_ap, kBin_ap, kUn_ap, kCall_ap, kCallL_ap, kNotT_ap, kAndT_ap, kOrT_ap, kIf_ap, kIfS_ap, kAnd_ap, kOr_ap, kNot_ap, kMt2_ap, kMt_ap, kPut4_ap, kPut3_ap, kPut2_ap, kPut_ap, kExt2_ap, kExt_ap, kAsg2_ap, kAsg_ap, kFor_ap, kLc_ap, kSl3_ap, kSl2_ap, kSl_ap, kGs_ap, ok_seq, sq_next, sq_ret, sq_brk, sq_cont, ok_nop, ok_brk, ok_cont, ok_drop, ok_ret, ok_retN, ok_set, ok_var0, ok_varS, ok_c, ok_nil, ok_cons, ok_tup, ok_lst, ok_val, ok_new, ok_bin, ok_un, ok_call, ok_callL, ok_test, tst_bl, ok_notT, ok_andT, ok_orT, ok_if, ok_ifS, ok_and, ok_or, ok_not, ok_mt, ok_put, ok_extend, pr2_mk, ok_par2, ok_asg, ok_for, ok_lc, ok_yes, ok_noPart, prt_int, ok_part, ok_sl, ok_gNm, ok_gTp, ok_gsN, ok_gsC, rg1_mk, rg2_mk, ok_rng1, ok_rng2, srcK_tup, srcK_ls, ok_src, finK_next, finK_ret, List.set_cons_zero, List.set_cons_succ, List.map_cons, List.map_nil, List.replicate, List.cons_append, List.nil_append, List.length_cons, List.length_nil, Bool.false_eq_true, eq_self, if_true, if_false, Nat.zero_add, okX_non, okX_bl, okX_int, okX_str, okX_tup, okX_ls, okX_loc, true_and, rr, ne_str, BEq.rfl, Bool.not_true]
    exact hR
def bA1q (b1 b2 : Fn Ct) : Fn Ct := (fSeq b1 (fFor (fSrc (fVar 3)) (gNm 8) b2))
def bA1 (bq : Fn Ct) : Fn Ct := (fSeq (fSet 4 (fIf (fTest (fBin gIn (fVar 7) (fVar 0))) (fTup (fCons (fC (.str (Str.ofString "told"))) (fCons (fIndex (fVar 2) (fCons (fVar 7) (fNil))) (fNil)))) (fTup (fCons (fC (.str (Str.ofString "name"))) (fCons (fVar 7) (fNil)))))) bq)
theorem a1q_spec {prs : Nat → Bool} {m : Nat} {gs : Addr → Addr → Nat → Fn Ct} {φp φh : Phi} {b b1 b2 bi : Fn Ct} (hb : b = bA1q b1 b2) (hb1 : b1 = bA1i prs m gs φp) (hb2 : b2 = bA2 bi) (hbi : bi = bA2i prs m gs φh) (hG : SuiteS gs) (hm : m = 5) (hp : ∀ cn, cn < 9 → prs cn = true) (hX : PlX φp) (hY : AhX φh) {lots : List Str} {ts : List Int} (hl : lots.length ≤ 1000) (ht : ts.length = lots.length) {ws : List Str} (hws : ∀ w ∈ ws, WOk w) (hwl : ws.length ≤ 1000) {one : Str} (h1 : WOk one) {s : Sto} (hf : Fl s) {d4 : Dv} (h4 : d4 = due1 lots ts one) {v5 v6 v8 : Option Dv} {R : Ct → Sto → Prop}
    (hR : ∀ v4 v5 v6 v8, R (.next [some (encS lots), some (.tup (ts.map .int)), some (encS (ordT lots ts)), some (.ls (ws.map .str)), v4, v5, v6, some (.str one), v8, none]) s) :
    OkE nX (b [some (encS lots), some (.tup (ts.map .int)), some (encS (ordT lots ts)), some (.ls (ws.map .str)), some d4, v5, v6, some (.str one), v8, none] s) R := by
  subst hb
  unfold bA1q
  simp only [ok_ok, kDrop_ap, kRet_ap, kSet_ap, kCons2_ap, kCons_ap, kTup_ap, kLst_ap, kVal_ap, kNew_ap, kBin2_ap, kBin_ap, kUn_ap, kCall_ap, kCallL_ap, kNotT_ap, kAndT_ap, kOrT_ap, kIf_ap, kIfS_ap, kAnd_ap, kOr_ap, kNot_ap, kMt2_ap, kMt_ap, kPut4_ap, kPut3_ap, kPut2_ap, kPut_ap, kExt2_ap, kExt_ap, kAsg2_ap, kAsg_ap, kFor_ap, kLc_ap, kSl3_ap, kSl2_ap, kSl_ap, kGs_ap, ok_seq, sq_next, sq_ret, sq_brk, sq_cont, ok_nop, ok_brk, ok_cont, ok_drop, ok_ret, ok_retN, ok_set, ok_var0, ok_varS, ok_c, ok_nil, ok_cons, ok_tup, ok_lst, ok_val, ok_new, ok_bin, ok_un, ok_call, ok_callL, ok_test, tst_bl, ok_notT, ok_andT, ok_orT, ok_if, ok_ifS, ok_and, ok_or, ok_not, ok_mt, ok_put, ok_extend, pr2_mk, ok_par2, ok_asg, ok_for, ok_lc, ok_yes, ok_noPart, prt_int, ok_part, ok_sl, ok_gNm, ok_gTp, ok_gsN, ok_gsC, rg1_mk, rg2_mk, ok_rng1, ok_rng2, srcK_tup, srcK_ls, ok_src, finK_next, finK_ret, List.set_cons_zero, List.set_cons_succ, List.map_cons, List.map_nil, List.replicate, List.cons_append, List.nil_append, List.length_cons, List.length_nil, Bool.false_eq_true, eq_self, if_true, if_false, Nat.zero_add, okX_non, okX_bl, okX_int, okX_str, okX_tup, okX_ls, okX_loc, true_and]
  refine a1i_spec hb1 hG hm hp hX hl ht h1 hf h4 ?_
  simp only [ok_ok, kDrop_ap, kRet_ap, kSet_ap, kCons2_ap, kCons_ap, kTup_ap, kLst_ap, kVal_ap, kNew_ap, kBin2_ap, kBin_ap, kUn_ap, kCall_ap, kCallL_ap, kNotT_ap, kAndT_ap, kOrT_ap, kIf_ap, kIfS_ap, kAnd_ap, kOr_ap, kNot_ap, kMt2_ap, kMt_ap, kPut4_ap, kPut3_ap, kPut2_ap, kPut_ap, kExt2_ap, kExt_ap, kAsg2_ap, kAsg_ap, kFor_ap, kLc_ap, kSl3_ap, kSl2_ap, kSl_ap, kGs_ap, ok_seq, sq_next, sq_ret, sq_brk, sq_cont, ok_nop, ok_brk, ok_cont, ok_drop, ok_ret, ok_retN, ok_set, ok_var0, ok_varS, ok_c, ok_nil, ok_cons, ok_tup, ok_lst, ok_val, ok_new, ok_bin, ok_un, ok_call, ok_callL, ok_test, tst_bl, ok_notT, ok_andT, ok_orT, ok_if, ok_ifS, ok_and, ok_or, ok_not, ok_mt, ok_put, ok_extend, pr2_mk, ok_par2, ok_asg, ok_for, ok_lc, ok_yes, ok_noPart, prt_int, ok_part, ok_sl, ok_gNm, ok_gTp, ok_gsN, ok_gsC, rg1_mk, rg2_mk, ok_rng1, ok_rng2, srcK_tup, srcK_ls, ok_src, finK_next, finK_ret, List.set_cons_zero, List.set_cons_succ, List.map_cons, List.map_nil, List.replicate, List.cons_append, List.nil_append, List.length_cons, List.length_nil, Bool.false_eq_true, eq_self, if_true, if_false, Nat.zero_add, okX_non, okX_bl, okX_int, okX_str, okX_tup, okX_ls, okX_loc, true_and]
  refine ok_loop (fun i env s' => ∃ v5 v6 v8 : Option Dv, env = [some (encS lots), some (.tup (ts.map .int)), some (encS (ordT lots ts)), some (.ls (ws.map .str)), some d4, v5, v6, some (.str one), v8, none] ∧ s' = s)
    (fun _ _ _ _ => rfl) (fun i d env s' hd h => ?_) (fun env s' h => ?_) ⟨_, _, _, rfl, rfl⟩
  · obtain ⟨v5, v6, v8, rfl, rfl⟩ := h
    obtain ⟨other, ho, rfl⟩ := List.mem_map.mp (List.mem_of_getElem? hd)
    simp only [ok_ok, kDrop_ap, kRet_ap, kSet_ap, kCons2_ap, kCons_ap, kTup_ap, kLst_ap, kVal_ap, kNew_ap, kBin2_ap, kBin_ap, kUn_ap, kCall_ap, kCallL_ap, kNotT_ap, kAndT_ap, kOrT_ap, kIf_ap, kIfS_ap, kAnd_ap, kOr_ap, kNot_ap, kMt2_ap, kMt_ap, kPut4_ap, kPut3_ap, kPut2_ap, kPut_ap, kExt2_ap, kExt_ap, kAsg2_ap, kAsg_ap, kFor_ap, kLc_ap, kSl3_ap, kSl2_ap, kSl_ap, kGs_ap, ok_seq, sq_next, sq_ret, sq_brk, sq_cont, ok_nop, ok_brk, ok_cont, ok_drop, ok_ret, ok_retN, ok_set, ok_var0, ok_varS, ok_c, ok_nil, ok_cons, ok_tup, ok_lst, ok_val, ok_new, ok_bin, ok_un, ok_call, ok_callL, ok_test, tst_bl, ok_notT, ok_andT, ok_orT, ok_if, ok_ifS, ok_and, ok_or, ok_not, ok_mt, ok_put, ok_extend, pr2_mk, ok_par2, ok_asg, ok_for, ok_lc, ok_yes, ok_noPart, prt_int, ok_part, ok_sl, ok_gNm, ok_gTp, ok_gsN, ok_gsC, rg1_mk, rg2_mk, ok_rng1, ok_rng2, srcK_tup, srcK_ls, ok_src, finK_next, finK_ret, List.set_cons_zero, List.set_cons_succ, List.map_cons, List.map_nil, List.replicate, List.cons_append, List.nil_append, List.length_cons, List.length_nil, Bool.false_eq_true, eq_self, if_true, if_false, Nat.zero_add, okX_non, okX_bl, okX_int, okX_str, okX_tup, okX_ls, okX_loc, true_and]
    refine a2_spec hb2 hbi hG hm hp hY hl ht h1 (hws other ho) hf fun v5 v6 => ?_
    first | exact ⟨_, _, _, rfl, rfl⟩ | exact ⟨_, _, _, rfl⟩ | exact ⟨_, _, _, rfl, trivial⟩
  · obtain ⟨v5, v6, v8, rfl, rfl⟩ := h
    exact hR _ _ _ _
theorem a1_spec {prs : Nat → Bool} {m : Nat} {gs : Addr → Addr → Nat → Fn Ct} {φp φh : Phi} {b bq b1 b2 bi : Fn Ct} (hb : b = bA1 bq) (hbq : bq = bA1q b1 b2) (hb1 : b1 = bA1i prs m gs φp) (hb2 : b2 = bA2 bi) (hbi : bi = bA2i prs m gs φh) (hG : SuiteS gs) (hm : m = 5) (hp : ∀ cn, cn < 9 → prs cn = true) (hX : PlX φp) (hY : AhX φh) {lots : List Str} {ts : List Int} (hl : lots.length ≤ 1000) (ht : ts.length = lots.length) {ws : List Str} (hws : ∀ w ∈ ws, WOk w) (hwl : ws.length ≤ 1000) {one : Str} (h1 : WOk one) {s : Sto} (hf : Fl s) {v4 v5 v6 v8 : Option Dv} {R : Ct → Sto → Prop}
    (hR : ∀ v4 v5 v6 v8, R (.next [some (encS lots), some (.tup (ts.map .int)), some (encS (ordT lots ts)), some (.ls (ws.map .str)), v4, v5, v6, some (.str one), v8, none]) s) :
    OkE nX (b [some (encS lots), some (.tup (ts.map .int)), some (encS (ordT lots ts)), some (.ls (ws.map .str)), v4, v5, v6, some (.str one), v8, none] s) R := by
  subst hb
  unfold bA1
  simp only [ok_ok, kDrop_ap, kRet_ap, kSet_ap, kCons2_ap, kCons_ap, kTup_ap, kLst_ap, kVal_ap, kNew_ap, kBin2_ap, kBin_ap, kUn_ap, kCall_ap, kCallL_ap, kNotT_ap, kAndT_ap, kOrT_ap, kIf_ap, kIfS_ap, kAnd_ap, kOr_ap, kNot_ap, kMt2_ap, kMt_ap, kPut4_ap, kPut3_ap, kPut2_ap, kPut_ap, kExt2_ap, kExt_ap, kAsg2_ap, kAsg_ap, kFor_ap, kLc_ap, kSl3_ap, kSl2_ap, kSl_ap, kGs_ap, ok_seq, sq_next, sq_ret, sq_brk, sq_cont, ok_nop, ok_brk, ok_cont, ok_drop, ok_ret, ok_retN, ok_set, ok_var0, ok_varS, ok_c, ok_nil, ok_cons, ok_tup, ok_lst, ok_val, ok_new, ok_bin, ok_un, ok_call, ok_callL, ok_test, tst_bl, ok_notT, ok_andT, ok_orT, ok_if, ok_ifS, ok_and, ok_or, ok_not, ok_mt, ok_put, ok_extend, pr2_mk, ok_par2, ok_asg, ok_for, ok_lc, ok_yes, ok_noPart, prt_int, ok_part, ok_sl, ok_gNm, ok_gTp, ok_gsN, ok_gsC, rg1_mk, rg2_mk, ok_rng1, ok_rng2, srcK_tup, srcK_ls, ok_src, finK_next, finK_ret, List.set_cons_zero, List.set_cons_succ, List.map_cons, List.map_nil, List.replicate, List.cons_append, List.nil_append, List.length_cons, List.length_nil, Bool.false_eq_true, eq_self, if_true, if_false, Nat.zero_add, okX_non, okX_bl, okX_int, okX_str, okX_tup, okX_ls, okX_loc, true_and, in_strs]
  by_cases i1 : one ∈ lots
  · rw [decide_eq_true i1]
    have m1 : one ∈ ordT lots ts := (ordS_perm _ _).mem_iff.mpr i1
    simp only [ok_ok, kDrop_ap, kRet_ap, kSet_ap, kCons2_ap, kCons_ap, kTup_ap, kLst_ap, kVal_ap, kNew_ap, kBin2_ap, kBin_ap, kUn_ap, kCall_ap, kCallL_ap, kNotT_ap, kAndT_ap, kOrT_ap, kIf_ap, kIfS_ap, kAnd_ap, kOr_ap, kNot_ap, kMt2_ap, kMt_ap, kPut4_ap, kPut3_ap, kPut2_ap, kPut_ap, kExt2_ap, kExt_ap, kAsg2_ap, kAsg_ap, kFor_ap, kLc_ap, kSl3_ap, kSl2_ap, kSl_ap, kGs_ap, ok_seq, sq_next, sq_ret, sq_brk, sq_cont, ok_nop, ok_brk, ok_cont, ok_drop, ok_ret, ok_retN, ok_set, ok_var0, ok_varS, ok_c, ok_nil, ok_cons, ok_tup, ok_lst, ok_val, ok_new, ok_bin, ok_un, ok_call, ok_callL, ok_test, tst_bl, ok_notT, ok_andT, ok_orT, ok_if, ok_ifS, ok_and, ok_or, ok_not, ok_mt, ok_put, ok_extend, pr2_mk, ok_par2, ok_asg, ok_for, ok_lc, ok_yes, ok_noPart, prt_int, ok_part, ok_sl, ok_gNm, ok_gTp, ok_gsN, ok_gsC, rg1_mk, rg2_mk, ok_rng1, ok_rng2, srcK_tup, srcK_ls, ok_src, finK_next, finK_ret, List.set_cons_zero, List.set_cons_succ, List.map_cons, List.map_nil, List.replicate, List.cons_append, List.nil_append, List.length_cons, List.length_nil, Bool.false_eq_true, eq_self, if_true, if_false, Nat.zero_add, okX_non, okX_bl, okX_int, okX_str, okX_tup, okX_ls, okX_loc, true_and]
    refine ok_indexN (xs := ordT lots ts) (z := one) rfl rfl m1 ?_
    simp only [ok_ok, kDrop_ap, kRet_ap, kSet_ap, kCons2_ap, kCons_ap, kTup_ap, kLst_ap, kVal_ap, kNew_ap, kBin2_ap, kBin_ap, kUn_ap, kCall_ap, kCallL_ap, kNotT_ap, kAndT_ap, kOrT_ap, kIf_ap, kIfS_ap, kAnd_ap, kOr_ap, kNot_ap, kMt2_ap, kMt_ap, kPut4_ap, kPut3_ap, kPut2_ap, kPut_ap, kExt2_ap, kExt_ap, kAsg2_ap, kAsg_ap, kFor_ap, kLc_ap, kSl3_ap, kSl2_ap, kSl_ap, kGs_ap, ok_seq, sq_next, sq_ret, sq_brk, sq_cont, ok_nop, ok_brk, ok_cont, ok_drop, ok_ret, ok_retN, ok_set, ok_var0, ok_varS, ok_c, ok_nil, ok_cons, ok_tup, ok_lst, ok_val, ok_new, ok_bin, ok_un, ok_call, ok_callL, ok_test, tst_bl, ok_notT, ok_andT, ok_orT, ok_if, ok_ifS, ok_and, ok_or, ok_not, ok_mt, ok_put, ok_extend, pr2_mk, ok_par2, ok_asg, ok_for, ok_lc, ok_yes, ok_noPart, prt_int, ok_part, ok_sl, ok_gNm, ok_gTp, ok_gsN, ok_gsC, rg1_mk, rg2_mk, ok_rng1, ok_rng2, srcK_tup, srcK_ls, ok_src, finK_next, finK_ret, List.set_cons_zero, List.set_cons_succ, List.map_cons, List.map_nil, List.replicate, List.cons_append, List.nil_append, List.length_cons, List.length_nil, Bool.false_eq_true, eq_self, if_true, if_false, Nat.zero_add, okX_non, okX_bl, okX_int, okX_str, okX_tup, okX_ls, okX_loc, true_and]
    try refine ⟨by decide, ?_⟩
    exact a1q_spec hbq hb1 hb2 hbi hG hm hp hX hY hl ht hws hwl h1 hf (by unfold due1; rw [if_pos i1]) hR
  · rw [decide_eq_false i1]
    simp only [ok_ok, kDrop_ap, kRet_ap, kSet_ap, kCons2_ap, kCons_ap, kTup_ap, kLst_ap, kVal_ap, kNew_ap, kBin2_ap, kBin_ap, kUn_ap, kCall_ap, kCallL_ap, kNotT_ap, kAndT_ap, kOrT_ap, kIf_ap, kIfS_ap, kAnd_ap, kOr_ap, kNot_ap, kMt2_ap, kMt_ap, kPut4_ap, kPut3_ap, kPut2_ap, kPut_ap, kExt2_ap, kExt_ap, kAsg2_ap, kAsg_ap, kFor_ap, kLc_ap, kSl3_ap, kSl2_ap, kSl_ap, kGs_ap, ok_seq, sq_next, sq_ret, sq_brk, sq_cont, ok_nop, ok_brk, ok_cont, ok_drop, ok_ret, ok_retN, ok_set, ok_var0, ok_varS, ok_c, ok_nil, ok_cons, ok_tup, ok_lst, ok_val, ok_new, ok_bin, ok_un, ok_call, ok_callL, ok_test, tst_bl, ok_notT, ok_andT, ok_orT, ok_if, ok_ifS, ok_and, ok_or, ok_not, ok_mt, ok_put, ok_extend, pr2_mk, ok_par2, ok_asg, ok_for, ok_lc, ok_yes, ok_noPart, prt_int, ok_part, ok_sl, ok_gNm, ok_gTp, ok_gsN, ok_gsC, rg1_mk, rg2_mk, ok_rng1, ok_rng2, srcK_tup, srcK_ls, ok_src, finK_next, finK_ret, List.set_cons_zero, List.set_cons_succ, List.map_cons, List.map_nil, List.replicate, List.cons_append, List.nil_append, List.length_cons, List.length_nil, Bool.false_eq_true, eq_self, if_true, if_false, Nat.zero_add, okX_non, okX_bl, okX_int, okX_str, okX_tup, okX_ls, okX_loc, true_and]
    try refine ⟨by decide, ?_⟩
    exact a1q_spec hbq hb1 hb2 hbi hG hm hp hX hY hl ht hws hwl h1 hf (by unfold due1; rw [if_neg i1]) hR
noncomputable def bRt2 (φl φo : Phi) (ba : Fn Ct) : Fn Ct :=
  fSeq (fSet 2 (fCall φl (fCons (fVar 0) (fCons (fVar 1) (fNil)))))
  (fSeq (fIfS (fTest (fBin gNe (fCall gRepr (fCons (fCall φo (fCons (fVar 0) (fCons (fVar 1) (fNil)))) (fNil))) (fCall gRepr (fCons (fVar 2) (fNil))))) (fRet (fC (.bl false))) (fNop))
  (fSeq (fSet 3 (fVal (fCatL (fVal (fCallL gList (fCons (fVar 0) (fNil)))) (fVal (fLst (fCons (fC (.str (Str.ofString "q"))) (fCons (fC (.str (Str.ofString "nought"))) (fNil))))))))
  (fSeq (fFor (fSrc (fVar 3)) (gNm 7) ba)
  (fRet (fC (.bl true))))))
def Right2 (φ : Phi) : Prop := ∀ (lots : List Str) (ts : List Int) (s : Sto) (T : Dv → Sto → Prop), lots.length ≤ 100 → ts.length = lots.length → lots.Nodup → (∀ z ∈ lots, WOk z) → Fl s → T (.bl true) s → OkE nX (φ [encS lots, .tup (ts.map .int)] s) T
theorem right2_spec {φl φo φp φh : Phi} {prs : Nat → Bool} {m : Nat} {gs : Addr → Addr → Nat → Fn Ct} {ba bq b1 b2 bi : Fn Ct} (hba : ba = bA1 bq) (hbq : bq = bA1q b1 b2) (hb1 : b1 = bA1i prs m gs φp) (hb2 : b2 = bA2 bi) (hbi : bi = bA2i prs m gs φh) (hG : SuiteS gs) (hm : m = 5) (hp : ∀ cn, cn < 9 → prs cn = true) (hX : PlX φp) (hY : AhX φh)
    (hL : ∀ (lots : List Str) (ts : List Int) (s : Sto) (T : Dv → Sto → Prop), lots.length ≤ 1000 → ts.length = lots.length → lots.Nodup → Fl s → T (encS (ordS lots (vT lots ts))) s → OkE nX (φl [encS lots, .tup (ts.map .int)] s) T) (hO : OrdS φo) : Right2 (fDef 2 10 (bRt2 φl φo ba)) := by
  intro lots ts s T hl ht hn hw hf hT
  rw [ok_def]
  refine ⟨rfl, ?_⟩
  unfold bRt2
  have ro : ∀ s : Sto, gRepr [encS (ordT lots ts)] s = .ok (.str (pd (encS (ordT lots ts))).shown) s := fun s => by
    have h := gb_encSQ (xs := ordT lots ts) fun x hx => hw x ((ordS_perm _ _).mem_iff.mp hx)
    have := ordT_len lots ts
    exact repr_gb (n := 2) h.1 (by decide) (by have := h.2; omega)
  have hst : ∀ z ∈ [Str.ofString "q", Str.ofString "nought"], WOk z := fun z hz => (by decide +kernel : ∀ z ∈ [Str.ofString "q", Str.ofString "nought"], PyData.strOk z = true ∧ z.cps.size ≤ 8) z hz
  generalize Str.ofString "q" = w1 at hst
  generalize Str.ofString "nought" = w2 at hst
  have eL : ∀ s : Sto, gList [encS lots] s = .ok (lots.map .str) s := fun s => rfl
  simp only [ok_ok, kDrop_ap, kRet_ap, kSet_ap, kCons2_ap, kCons_ap, kTup_ap, kLst_ap, kVal_ap, kNew_ap, kBin2_ap, kBin_ap, kUn_ap, kCall_ap, kCallL_ap, kNotT_ap, kAndT_ap, kOrT_ap, kIf_ap, kIfS_ap, kAnd_ap, kOr_ap, kNot_ap, kMt2_ap, kMt_ap, kPut4_ap, kPut3_ap, kPut2_ap, kPut_ap, kExt2_ap, kExt_ap, kAsg2_ap, kAsg_ap, kFor_ap, kLc_ap, kSl3_ap, kSl2_ap, kSl_ap, kGs_ap, ok_seq, sq_next, sq_ret, sq_brk, sq_cont, ok_nop, ok_brk, ok_cont, ok_drop, ok_ret, ok_retN, ok_set, ok_var0, ok_varS, ok_c, ok_nil, ok_cons, ok_tup, ok_lst, ok_val, ok_new, ok_bin, ok_un, ok_call, ok_callL, ok_test, tst_bl, ok_notT, ok_andT, ok_orT, ok_if, ok_ifS, ok_and, ok_or, ok_not, ok_mt, ok_put, ok_extend, pr2_mk, ok_par2, ok_asg, ok_for, ok_lc, ok_yes, ok_noPart, prt_int, ok_part, ok_sl, ok_gNm, ok_gTp, ok_gsN, ok_gsC, rg1_mk, rg2_mk, ok_rng1, ok_rng2, srcK_tup, srcK_ls, ok_src, finK_next, finK_ret, List.set_cons_zero, List.set_cons_succ, List.map_cons, List.map_nil, List.replicate, List.cons_append, List.nil_append, List.length_cons, List.length_nil, Bool.false_eq_true, eq_self, if_true, if_false, Nat.zero_add, okX_non, okX_bl, okX_int, okX_str, okX_tup, okX_ls, okX_loc, true_and]
  refine hL lots ts s _ (by omega) ht hn hf ?_
  simp only [ok_ok, kDrop_ap, kRet_ap, kSet_ap, kCons2_ap, kCons_ap, kTup_ap, kLst_ap, kVal_ap, kNew_ap, kBin2_ap, kBin_ap, kUn_ap, kCall_ap, kCallL_ap, kNotT_ap, kAndT_ap, kOrT_ap, kIf_ap, kIfS_ap, kAnd_ap, kOr_ap, kNot_ap, kMt2_ap, kMt_ap, kPut4_ap, kPut3_ap, kPut2_ap, kPut_ap, kExt2_ap, kExt_ap, kAsg2_ap, kAsg_ap, kFor_ap, kLc_ap, kSl3_ap, kSl2_ap, kSl_ap, kGs_ap, ok_seq, sq_next, sq_ret, sq_brk, sq_cont, ok_nop, ok_brk, ok_cont, ok_drop, ok_ret, ok_retN, ok_set, ok_var0, ok_varS, ok_c, ok_nil, ok_cons, ok_tup, ok_lst, ok_val, ok_new, ok_bin, ok_un, ok_call, ok_callL, ok_test, tst_bl, ok_notT, ok_andT, ok_orT, ok_if, ok_ifS, ok_and, ok_or, ok_not, ok_mt, ok_put, ok_extend, pr2_mk, ok_par2, ok_asg, ok_for, ok_lc, ok_yes, ok_noPart, prt_int, ok_part, ok_sl, ok_gNm, ok_gTp, ok_gsN, ok_gsC, rg1_mk, rg2_mk, ok_rng1, ok_rng2, srcK_tup, srcK_ls, ok_src, finK_next, finK_ret, List.set_cons_zero, List.set_cons_succ, List.map_cons, List.map_nil, List.replicate, List.cons_append, List.nil_append, List.length_cons, List.length_nil, Bool.false_eq_true, eq_self, if_true, if_false, Nat.zero_add, okX_non, okX_bl, okX_int, okX_str, okX_tup, okX_ls, okX_loc, true_and]
  refine hO lots ts s _ (by omega) ht ?_
  simp only [ok_ok, kDrop_ap, kRet_ap, kSet_ap, kCons2_ap, kCons_ap, kTup_ap, kLst_ap, kVal_ap, kNew_ap, kBin2_ap, kBin_ap, kUn_ap, kCall_ap, kCallL_ap, kNotT_ap, kAndT_ap, kOrT_ap, kIf_ap, kIfS_ap, kAnd_ap, kOr_ap, kNot_ap, kMt2_ap, kMt_ap, kPut4_ap, kPut3_ap, kPut2_ap, kPut_ap, kExt2_ap, kExt_ap, kAsg2_ap, kAsg_ap, kFor_ap, kLc_ap, kSl3_ap, kSl2_ap, kSl_ap, kGs_ap, ok_seq, sq_next, sq_ret, sq_brk, sq_cont, ok_nop, ok_brk, ok_cont, ok_drop, ok_ret, ok_retN, ok_set, ok_var0, ok_varS, ok_c, ok_nil, ok_cons, ok_tup, ok_lst, ok_val, ok_new, ok_bin, ok_un, ok_call, ok_callL, ok_test, tst_bl, ok_notT, ok_andT, ok_orT, ok_if, ok_ifS, ok_and, ok_or, ok_not, ok_mt, ok_put, ok_extend, pr2_mk, ok_par2, ok_asg, ok_for, ok_lc, ok_yes, ok_noPart, prt_int, ok_part, ok_sl, ok_gNm, ok_gTp, ok_gsN, ok_gsC, rg1_mk, rg2_mk, ok_rng1, ok_rng2, srcK_tup, srcK_ls, ok_src, finK_next, finK_ret, List.set_cons_zero, List.set_cons_succ, List.map_cons, List.map_nil, List.replicate, List.cons_append, List.nil_append, List.length_cons, List.length_nil, Bool.false_eq_true, eq_self, if_true, if_false, Nat.zero_add, okX_non, okX_bl, okX_int, okX_str, okX_tup, okX_ls, okX_loc, true_and, ro, ne_str, BEq.rfl, Bool.not_true]
  rw [ok_catL]
  simp only [ok_ok, kDrop_ap, kRet_ap, kSet_ap, kCons2_ap, kCons_ap, kTup_ap, kLst_ap, kVal_ap, kNew_ap, kBin2_ap, kBin_ap, kUn_ap, kCall_ap, kCallL_ap, kNotT_ap, kAndT_ap, kOrT_ap, kIf_ap, kIfS_ap, kAnd_ap, kOr_ap, kNot_ap, kMt2_ap, kMt_ap, kPut4_ap, kPut3_ap, kPut2_ap, kPut_ap, kExt2_ap, kExt_ap, kAsg2_ap, kAsg_ap, kFor_ap, kLc_ap, kSl3_ap, kSl2_ap, kSl_ap, kGs_ap, ok_seq, sq_next, sq_ret, sq_brk, sq_cont, ok_nop, ok_brk, ok_cont, ok_drop, ok_ret, ok_retN, ok_set, ok_var0, ok_varS, ok_c, ok_nil, ok_cons, ok_tup, ok_lst, ok_val, ok_new, ok_bin, ok_un, ok_call, ok_callL, ok_test, tst_bl, ok_notT, ok_andT, ok_orT, ok_if, ok_ifS, ok_and, ok_or, ok_not, ok_mt, ok_put, ok_extend, pr2_mk, ok_par2, ok_asg, ok_for, ok_lc, ok_yes, ok_noPart, prt_int, ok_part, ok_sl, ok_gNm, ok_gTp, ok_gsN, ok_gsC, rg1_mk, rg2_mk, ok_rng1, ok_rng2, srcK_tup, srcK_ls, ok_src, finK_next, finK_ret, List.set_cons_zero, List.set_cons_succ, List.map_cons, List.map_nil, List.replicate, List.cons_append, List.nil_append, List.length_cons, List.length_nil, Bool.false_eq_true, eq_self, if_true, if_false, Nat.zero_add, okX_non, okX_bl, okX_int, okX_str, okX_tup, okX_ls, okX_loc, true_and, kCat_ap, eL]
  try refine ⟨by decide, ?_⟩
  rw [kCat2_ls]
  refine ⟨decide_eq_true (by rw [List.length_map]; simp only [List.length_cons, List.length_nil]; omega), ?_⟩
  have ew : lots.map Dv.str ++ [Dv.str w1, Dv.str w2] = (lots ++ [w1, w2]).map .str := by rw [List.map_append]; rfl
  rw [ew]
  have hws : ∀ w ∈ lots ++ [w1, w2], WOk w := fun w h => (List.mem_append.mp h).elim (hw w) (hst w)
  have hwl : (lots ++ [w1, w2]).length ≤ 1000 := by rw [List.length_append]; simp only [List.length_cons, List.length_nil]; omega
  generalize lots ++ [w1, w2] = ws at hws hwl
  simp only [ok_ok, kDrop_ap, kRet_ap, kSet_ap, kCons2_ap, kCons_ap, kTup_ap, kLst_ap, kVal_ap, kNew_ap, kBin2_ap, kBin_ap, kUn_ap, kCall_ap, kCallL_ap, kNotT_ap, kAndT_ap, kOrT_ap, kIf_ap, kIfS_ap, kAnd_ap, kOr_ap, kNot_ap, kMt2_ap, kMt_ap, kPut4_ap, kPut3_ap, kPut2_ap, kPut_ap, kExt2_ap, kExt_ap, kAsg2_ap, kAsg_ap, kFor_ap, kLc_ap, kSl3_ap, kSl2_ap, kSl_ap, kGs_ap, ok_seq, sq_next, sq_ret, sq_brk, sq_cont, ok_nop, ok_brk, ok_cont, ok_drop, ok_ret, ok_retN, ok_set, ok_var0, ok_varS, ok_c, ok_nil, ok_cons, ok_tup, ok_lst, ok_val, ok_new, ok_bin, ok_un, ok_call, ok_callL, ok_test, tst_bl, ok_notT, ok_andT, ok_orT, ok_if, ok_ifS, ok_and, ok_or, ok_not, ok_mt, ok_put, ok_extend, pr2_mk, ok_par2, ok_asg, ok_for, ok_lc, ok_yes, ok_noPart, prt_int, ok_part, ok_sl, ok_gNm, ok_gTp, ok_gsN, ok_gsC, rg1_mk, rg2_mk, ok_rng1, ok_rng2, srcK_tup, srcK_ls, ok_src, finK_next, finK_ret, List.set_cons_zero, List.set_cons_succ, List.map_cons, List.map_nil, List.replicate, List.cons_append, List.nil_append, List.length_cons, List.length_nil, Bool.false_eq_true, eq_self, if_true, if_false, Nat.zero_add, okX_non, okX_bl, okX_int, okX_str, okX_tup, okX_ls, okX_loc, true_and]
  refine ok_loop (fun i env s' => ∃ v4 v5 v6 v7 v8 : Option Dv, env = [some (encS lots), some (.tup (ts.map .int)), some (encS (ordT lots ts)), some (.ls (ws.map .str)), v4, v5, v6, v7, v8, none] ∧ s' = s)
    (fun _ _ _ _ => rfl) (fun i d env s' hd h => ?_) (fun env s' h => ?_) ⟨_, _, _, _, _, rfl, rfl⟩
  · obtain ⟨v4, v5, v6, v7, v8, rfl, rfl⟩ := h
    obtain ⟨one, ho, rfl⟩ := List.mem_map.mp (List.mem_of_getElem? hd)
    simp only [ok_ok, kDrop_ap, kRet_ap, kSet_ap, kCons2_ap, kCons_ap, kTup_ap, kLst_ap, kVal_ap, kNew_ap, kBin2_ap, kBin_ap, kUn_ap, kCall_ap, kCallL_ap, kNotT_ap, kAndT_ap, kOrT_ap, kIf_ap, kIfS_ap, kAnd_ap, kOr_ap, kNot_ap, kMt2_ap, kMt_ap, kPut4_ap, kPut3_ap, kPut2_ap, kPut_ap, kExt2_ap, kExt_ap, kAsg2_ap, kAsg_ap, kFor_ap, kLc_ap, kSl3_ap, kSl2_ap, kSl_ap, kGs_ap, ok_seq, sq_next, sq_ret, sq_brk, sq_cont, ok_nop, ok_brk, ok_cont, ok_drop, ok_ret, ok_retN, ok_set, ok_var0, ok_varS, ok_c, ok_nil, ok_cons, ok_tup, ok_lst, ok_val, ok_new, ok_bin, ok_un, ok_call, ok_callL, ok_test, tst_bl, ok_notT, ok_andT, ok_orT, ok_if, ok_ifS, ok_and, ok_or, ok_not, ok_mt, ok_put, ok_extend, pr2_mk, ok_par2, ok_asg, ok_for, ok_lc, ok_yes, ok_noPart, prt_int, ok_part, ok_sl, ok_gNm, ok_gTp, ok_gsN, ok_gsC, rg1_mk, rg2_mk, ok_rng1, ok_rng2, srcK_tup, srcK_ls, ok_src, finK_next, finK_ret, List.set_cons_zero, List.set_cons_succ, List.map_cons, List.map_nil, List.replicate, List.cons_append, List.nil_append, List.length_cons, List.length_nil, Bool.false_eq_true, eq_self, if_true, if_false, Nat.zero_add, okX_non, okX_bl, okX_int, okX_str, okX_tup, okX_ls, okX_loc, true_and]
    refine a1_spec hba hbq hb1 hb2 hbi hG hm hp hX hY (by omega) ht hws hwl (hws one ho) hf fun v4 v5 v6 v8 => ?_
    first | exact ⟨_, _, _, _, _, rfl, rfl⟩ | exact ⟨_, _, _, _, _, rfl⟩
  · obtain ⟨v4, v5, v6, v7, v8, rfl, rfl⟩ := h
    simp only [ok_ok, kDrop_ap, kRet_ap, kSet_ap, kCons2_ap, kCons_ap, kTup_ap, kLst_ap, kVal_ap, kNew_ap, kBin2_ap, kBin_ap, kUn_ap, kCall_ap, kCallL_ap, kNotT_ap, kAndT_ap, kOrT_ap, kIf_ap, kIfS_ap, kAnd_ap, kOr_ap, kNot_ap, kMt2_ap, kMt_ap, kPut4_ap, kPut3_ap, kPut2_ap, kPut_ap, kExt2_ap, kExt_ap, kAsg2_ap, kAsg_ap, kFor_ap, kLc_ap, kSl3_ap, kSl2_ap, kSl_ap, kGs_ap, ok_seq, sq_next, sq_ret, sq_brk, sq_cont, ok_nop, ok_brk, ok_cont, ok_drop, ok_ret, ok_retN, ok_set, ok_var0, ok_varS, ok_c, ok_nil, ok_cons, ok_tup, ok_lst, ok_val, ok_new, ok_bin, ok_un, ok_call, ok_callL, ok_test, tst_bl, ok_notT, ok_andT, ok_orT, ok_if, ok_ifS, ok_and, ok_or, ok_not, ok_mt, ok_put, ok_extend, pr2_mk, ok_par2, ok_asg, ok_for, ok_lc, ok_yes, ok_noPart, prt_int, ok_part, ok_sl, ok_gNm, ok_gTp, ok_gsN, ok_gsC, rg1_mk, rg2_mk, ok_rng1, ok_rng2, srcK_tup, srcK_ls, ok_src, finK_next, finK_ret, List.set_cons_zero, List.set_cons_succ, List.map_cons, List.map_nil, List.replicate, List.cons_append, List.nil_append, List.length_cons, List.length_nil, Bool.false_eq_true, eq_self, if_true, if_false, Nat.zero_add, okX_non, okX_bl, okX_int, okX_str, okX_tup, okX_ls, okX_loc, true_and]
    exact fin_any (fun n => nofun) hT
end Z

namespace Z
open PySem PySem.Spec L2

/-! ### names by two letters -/
def chrS (i : Nat) : Str := ⟨#[97 + i]⟩
def poolC (i j : Nat) : List Str := [chrS i, chrS i ++ chrS j, chrS j, chrS j ++ chrS i, chrS i ++ chrS i, Txt.mul (chrS j) 8]
def bLotsC (φd : Phi) : Fn Ct :=
  fSeq (fSet 2 (fC (.str (Str.ofString "abcdefghijklmnopqrstuvwxyz"))))
  (fSeq (fSet 3 (fCall φd (fCons (fVar 0) (fCons (fC (.int 26)) (fNil)))))
  (fSeq (fPar2 4 5 (fCons (fBin gIx (fVar 2) (fVar 3)) (fCons (fBin gIx (fVar 2) (fBin gMod (fBin gAdd (fBin gAdd (fVar 3) (fC (.int 1))) (fCall φd (fCons (fVar 0) (fCons (fC (.int 25)) (fNil))))) (fC (.int 26)))) (fNil))))
  (fSeq (fSet 6 (fNew (fLst (fCons (fVar 4) (fCons (fBin gAdd (fVar 4) (fVar 5)) (fCons (fVar 5) (fCons (fBin gAdd (fVar 5) (fVar 4)) (fCons (fBin gAdd (fVar 4) (fVar 4)) (fCons (fBin gTimes (fVar 5) (fC (.int 8))) (fNil))))))))))
  (fRet (fVal (fLc (fRng1 (fCons (fVar 1) (fNil))) [7] (gNm 7) (fYes) (fMt isL gPopAt (fVar 6) (fCons (fCall φd (fCons (fVar 0) (fCons (fCall gLen (fCons (fVar 6) (fNil))) (fNil)))) (fNil)))))))))
def LotsC (φ : Phi) : Prop := ∀ (f : Feed) (r : Sto) (m : Int), f.Wf → f.calls + 20 ≤ 1000000 → 0 ≤ m → m ≤ 6 → Fl r → OkE nX (φ [.loc 0, .int m] (feedOb f :: r)) fun d s' => ∃ (xs : List Str) (f' : Feed), d = .ls (xs.map .str) ∧ (xs.length : Int) = m ∧ xs.Nodup ∧ (∀ x ∈ xs, isWordS x = true) ∧
  s' = feedOb f' :: r ∧ f'.Wf ∧ f.calls ≤ f'.calls ∧ f'.calls ≤ f.calls + 10
def bPileR : Fn Ct := (fRet (fTup (fCons (fBin gIx (fVar 1) (fVar 4)) (fCons (fVar 5) (fCons (fVar 6) (fCons (fCall gTuple (fCons (fVal (fCallL gSorted (fCons (fVar 7) (fNil)))) (fNil))) (fNil)))))))
def bPileO (φd : Phi) : Fn Ct :=
  fSeq (fSet 7 (fVal (fLst (fNil))))
  (fSeq (fIfS (fAndT (fTest (fVar 3)) (fTest (fBin gEq (fCall φd (fCons (fVar 0) (fCons (fC (.int 3)) (fNil)))) (fC (.int 0))))) (fSet 7 (fSl (fVal (fLc (fSrc (fVar 1)) [8] (gNm 8) (fAndT (fTest (fBin gNe (fVar 8) (fBin gIx (fVar 1) (fVar 4)))) (fTest (fBin gEq (fCall φd (fCons (fVar 0) (fCons (fC (.int 2)) (fNil)))) (fC (.int 0))))) (fVar 8))) (fNoPart) (fPart (fC (.int 2))))) (fNop))
  bPileR)
def bPileC (φd : Phi) : Fn Ct :=
  fSeq (fSet 4 (fCall φd (fCons (fVar 0) (fCons (fCall gLen (fCons (fVar 1) (fNil))) (fNil)))))
  (fSeq (fIfS (fTest (fVar 2)) (fSeq (fSet 5 (fBin gIx (fVal (fLst (fCons (fBin gPow (fC (.int 10)) (fC (.int 6))) (fCons (fCall φd (fCons (fVar 0) (fCons (fBin gPow (fC (.int 10)) (fC (.int 6))) (fNil)))) (fCons (fC (.int 0)) (fNil)))))) (fCall φd (fCons (fVar 0) (fCons (fC (.int 3)) (fNil))))))
  (fSet 6 (fBin gIx (fVal (fLst (fCons (fBin gPow (fC (.int 10)) (fC (.int 4))) (fCons (fCall φd (fCons (fVar 0) (fCons (fBin gPow (fC (.int 10)) (fC (.int 4))) (fNil)))) (fCons (fC (.int 0)) (fNil)))))) (fCall φd (fCons (fVar 0) (fCons (fC (.int 3)) (fNil))))))) (fPar2 5 6 (fCons (fCall φd (fCons (fVar 0) (fCons (fC (.int 12)) (fNil)))) (fCons (fBin gIx (fVal (fLst (fCons (fC (.int 0)) (fCons (fC (.int 1)) (fCons (fC (.int 2)) (fCons (fC (.int 5)) (fNil))))))) (fCall φd (fCons (fVar 0) (fCons (fC (.int 4)) (fNil))))) (fNil)))))
  (bPileO φd))
def PileC (φ : Phi) : Prop := ∀ (f : Feed) (r : Sto) (lots : List Str) (g w : Bool), f.Wf → f.calls + 30 ≤ 1000000 → 1 ≤ lots.length → lots.length ≤ 6 → Fl r → OkE nX (φ [.loc 0, .ls (lots.map .str), .bl g, .bl w] (feedOb f :: r)) fun d s' => ∃ (p : Pil) (f' : Feed), d = encP p ∧ PilOk lots p ∧ (w = false → p.others = []) ∧
  s' = feedOb f' :: r ∧ f'.Wf ∧ f.calls ≤ f'.calls ∧ f'.calls ≤ f.calls + 20
end Z

namespace Z
open PySem PySem.Spec L2

/-! ### unlike texts counted -/
/-! ### rows of groups -/
structure Gr where
  name : Str
  many : Int
  slip : Int
def encG (g : Gr) : Dv := .tup [.str g.name, .int g.many, .int g.slip]
def isRowG : Dv → Bool
  | .tup [n, a, b] => isWordD n && (isFromD a && isFromD b)
  | _ => false
def nmsG (gs : List Gr) : List Str := gs.map (·.name)
def GrOf (gs : List Gr) : Prop := (∀ g ∈ gs, isRowG (encG g) = true) ∧ (nmsG gs).Nodup
def IsGr (d : Dv) : Prop := ∃ gs : List Gr, d = .tup (gs.map encG) ∧ GrOf gs
def IsGrS (φ : Phi) : Prop := ∀ (d : Dv) (s : Sto) (T : Dv → Sto → Prop), Thg d → Fl s → (IsGr d → T (.bl true) s) → (¬ IsGr d → T (.bl false) s) → OkE nX (φ [d] s) T
def bRowG (φw φf : Phi) : Fn Ct :=
  fSeq (fIfS (fOrT (fNotT (fTest (fIsi "tuple" (fVar 0)))) (fOrT (fTest (fBin gNe (fCall gLen (fCons (fVar 0) (fNil))) (fC (.int 3)))) (fNotT (fTest (fCall φw (fCons (fBin gIx (fVar 0) (fC (.int 0))) (fNil))))))) (fRet (fC (.bl false))) (fNop))
  (fRet (fAnd (fCall φf (fCons (fBin gIx (fVar 0) (fC (.int 1))) (fNil))) (fCall φf (fCons (fBin gIx (fVar 0) (fC (.int 2))) (fNil)))))
/-! ### a group -/
def kLenSet (T : Dv → Sto → Prop) : Dv → Sto → Prop := fun x s => ∃ zs, (seqOf s x).bind strs? = some zs ∧ decide (zs.length ≤ 4000) = true ∧ T (.int (dst zs).length) s
def bGroup (φr : Phi) : Fn Ct :=
  fSeq (fIfS (fOrT (fNotT (fTest (fIsi "tuple" (fVar 0)))) (fNotT (fTest (fCall gAll (fCons (fVal (fLc (fSrc (fVar 0)) [1] (gNm 1) (fYes) (fCall φr (fCons (fVar 1) (fNil))))) (fNil)))))) (fRet (fC (.bl false))) (fNop))
  (fRet (fBin gEq (fLenSet (fVal (fLc (fSrc (fVar 0)) [1] (gNm 1) (fYes) (fBin gIx (fVar 1) (fC (.int 0)))))) (fCall gLen (fCons (fVar 0) (fNil)))))
end Z

namespace Z
open PySem PySem.Spec L2

/-! ### groups by the law's own look -/
def bGrL4 : Fn Ct :=
  (fSeq (fIfS (fTest (fBin gNe (fVal (fLc (fSrc (fSl (fVar 2) (fPart (fC (.int 1))) (fNoPart))) [3] (gNm 3) (fOrT (fNotT (fTest (fIsi "int" (fVar 3)))) (fOrT (fTest (fIsi "bool" (fVar 3))) (fTest (fBin gLt (fVar 3) (fC (.int 0)))))) (fVar 3))) (fVal (fLst (fNil))))) (fRet (fC (.bl false))) (fNop))
  (fDrop (fMt isL gAppend (fVar 1) (fCons (fBin gIx (fVar 2) (fC (.int 0))) (fNil)))))
def bGrL3 : Fn Ct :=
  (fSeq (fIfS (fOrT (fTest (fBin gNe (fVal (fLc (fSrcS (fBin gIx (fVar 2) (fC (.int 0)))) [4] (gNm 4) (fNotT (fTest (fChain gLe gLe (fC (.str (Str.ofString "a"))) (fVar 4) (fC (.str (Str.ofString "z")))))) (fVar 4))) (fVal (fLst (fNil))))) (fTest (fBin gIn (fBin gIx (fVar 2) (fC (.int 0))) (fVar 1)))) (fRet (fC (.bl false))) (fNop))
  bGrL4)
def bGrL2 : Fn Ct :=
  (fSeq (fIfS (fOrT (fNotT (fTest (fIsi "tuple" (fVar 2)))) (fOrT (fTest (fBin gNe (fCall gLen (fCons (fVar 2) (fNil))) (fC (.int 3)))) (fOrT (fNotT (fTest (fIsi "str" (fBin gIx (fVar 2) (fC (.int 0)))))) (fNotT (fTest (fChain gLe gLe (fC (.int 1)) (fCall gLen (fCons (fBin gIx (fVar 2) (fC (.int 0))) (fNil))) (fC (.int 8)))))))) (fRet (fC (.bl false))) (fNop))
  bGrL3)
def bGrL : Fn Ct :=
  fSeq (fIfS (fNotT (fTest (fIsi "tuple" (fVar 0)))) (fRet (fC (.bl false))) (fNop))
  (fSeq (fSet 1 (fNew (fLst (fNil))))
  (fSeq (fFor (fSrc (fVar 0)) (gNm 2) bGrL2)
  (fRet (fC (.bl true)))))
end Z

namespace Z
open PySem PySem.Spec L2

/-! ### data of bounded leaves -/
mutual
/-- ints up to m, texts of at most k signs, n deep -/
def gp (m k : Nat) : Nat → Dv → Bool
  | 0, _ => false
  | _ + 1, .non => true
  | _ + 1, .bl _ => true
  | _ + 1, .int i => decide (i.natAbs ≤ m)
  | _ + 1, .str x => PyData.strOk x && decide (x.cps.size ≤ k)
  | n + 1, .tup ds => gps m k n ds
  | n + 1, .ls ds => gps m k n ds
  | _ + 1, .loc _ => false
  | _ + 1, .xn .. => false
def gps (m k : Nat) : Nat → List Dv → Bool
  | _, [] => true
  | n, d :: r => gp m k n d && gps m k n r
end
mutual
theorem gp_up {m k m2 k2 : Nat} (hm : m ≤ m2) (hk : k ≤ k2) : ∀ {n l : Nat} {d : Dv}, gp m k n d = true → n ≤ l → gp m2 k2 l d = true
  | 0, _, _, h, _ => by simp [gp] at h
  | n + 1, 0, _, _, hn => by omega
  | n + 1, l + 1, .non, _, _ => by simp [gp]
  | n + 1, l + 1, .bl _, _, _ => by simp [gp]
  | n + 1, l + 1, .int i, h, _ => by
    have h : i.natAbs ≤ m := by simpa [gp] using h
    simp only [gp, decide_eq_true_eq]; omega
  | n + 1, l + 1, .str x, h, _ => by
    have h : PyData.strOk x = true ∧ x.cps.size ≤ k := by simpa [gp] using h
    simp only [gp, Bool.and_eq_true, decide_eq_true_eq]
    exact ⟨h.1, by omega⟩
  | n + 1, l + 1, .tup ds, h, hn => by
    simp only [gp] at h ⊢; exact gps_up hm hk h (by omega)
  | n + 1, l + 1, .ls ds, h, hn => by
    simp only [gp] at h ⊢; exact gps_up hm hk h (by omega)
  | n + 1, l + 1, .loc _, h, _ => by simp [gp] at h
  | n + 1, l + 1, .xn .., h, _ => by simp [gp] at h
theorem gps_up {m k m2 k2 : Nat} (hm : m ≤ m2) (hk : k ≤ k2) : ∀ {n l : Nat} {ds : List Dv}, gps m k n ds = true → n ≤ l → gps m2 k2 l ds = true
  | _, _, [], _, _ => by simp [gps]
  | n, l, d :: r, h, hn => by
    have h : gp m k n d = true ∧ gps m k n r = true := by simpa [gps] using h
    simp only [gps, Bool.and_eq_true]
    exact ⟨gp_up hm hk h.1 hn, gps_up hm hk h.2 hn⟩
end
mutual
theorem gp_gb {m k : Nat} (hm : m < 10 ^ 100) (hk : k ≤ 4096) : ∀ {n : Nat} {d : Dv}, gp m k n d = true → gb n d = true
  | 0, _, h => by simp [gp] at h
  | n + 1, .non, _ => by simp [gb]
  | n + 1, .bl _, _ => by simp [gb]
  | n + 1, .int i, h => by
    have h : i.natAbs ≤ m := by simpa [gp] using h
    simp only [gb, decide_eq_true_eq]; exact Nat.lt_of_le_of_lt h hm
  | n + 1, .str x, h => by
    have h : PyData.strOk x = true ∧ x.cps.size ≤ k := by simpa [gp] using h
    exact gb_str.mpr ⟨h.1, by omega⟩
  | n + 1, .tup ds, h => by
    simp only [gp] at h; exact gb_tup.trans (gps_gbs hm hk h)
  | n + 1, .ls ds, h => by
    simp only [gp] at h; exact gb_ls.trans (gps_gbs hm hk h)
  | n + 1, .loc _, h => by simp [gp] at h
  | n + 1, .xn .., h => by simp [gp] at h
theorem gps_gbs {m k : Nat} (hm : m < 10 ^ 100) (hk : k ≤ 4096) : ∀ {n : Nat} {ds : List Dv}, gps m k n ds = true → gbs n ds = true
  | _, [], _ => by simp [gbs]
  | n, d :: r, h => by
    have h : gp m k n d = true ∧ gps m k n r = true := by simpa [gps] using h
    simp only [gbs, Bool.and_eq_true]
    exact ⟨gp_gb hm hk h.1, gps_gbs hm hk h.2⟩
end
/-- what is so bounded, of so much weight -/
structure Md (m k n w : Nat) (d : Dv) : Prop where
  g : gp m k n d = true
  w : wb d ≤ w
theorem Md.up {m k n w m2 k2 n2 w2 : Nat} {d : Dv} (h : Md m k n w d) (h1 : m ≤ m2) (h2 : k ≤ k2) (h3 : n ≤ n2) (h4 : w ≤ w2) : Md m2 k2 n2 w2 d := ⟨gp_up h1 h2 h.g h3, Nat.le_trans h.w h4⟩
def timesD (n : Nat) (ds : List Dv) : List Dv := (List.replicate n ds).flatten
end Z

namespace Z
open PySem PySem.Spec L2

/-! ### another thing in the place of one -/
def bOdd4 (φd : Phi) : Fn Ct :=
  (fRet (fBin gIx (fVar 2) (fCall φd (fCons (fVar 0) (fCons (fCall gLen (fCons (fVar 2) (fNil))) (fNil))))))
def bOdd3 (φd : Phi) : Fn Ct :=
  (fSeq (fIfS (fTest (fIsi "tuple" (fVar 1))) (fSet 2 (fVal (fCatL (fVar 2) (fVal (fTimesL (fLst (fCons (fVal (fCallL gList (fCons (fVar 1) (fNil)))) (fCons (fBin gAddB (fVar 1) (fTup (fCons (fC .non) (fNil)))) (fCons (fBin gAddB (fVar 1) (fSl (fVar 1) (fPart (fUn gNeg (fC (.int 1)))) (fNoPart))) (fCons (fSl (fVar 1) (fNoPart) (fPart (fUn gNeg (fC (.int 1))))) (fCons (fRevT (fVar 1)) (fNil))))))) 3))))) (fNop))
  (bOdd4 φd))
def bOdd2 (φd : Phi) : Fn Ct :=
  (fSeq (fIfS (fTest (fIsi "str" (fVar 1))) (fSet 2 (fVal (fCatL (fVar 2) (fVal (fTimesL (fLst (fCons (fBin gAddB (fVar 1) (fC (.str (Str.ofString "a")))) (fCons (fSl (fVar 1) (fNoPart) (fPart (fUn gNeg (fC (.int 1))))) (fCons (fC (.str (Str.ofString "b"))) (fCons (fC (.str (Str.ofString "by"))) (fNil)))))) 3))))) (fNop))
  (bOdd3 φd))
def bOdd1 (φd : Phi) : Fn Ct :=
  (fSeq (fIfS (fTest (fIsi "int" (fVar 1))) (fSet 2 (fVal (fCatL (fVar 2) (fVal (fTimesL (fLst (fCons (fBin gAddB (fVar 1) (fC (.int 1))) (fCons (fBin gSubB (fVar 1) (fC (.int 1))) (fCons (fCall gStrB (fCons (fVar 1) (fNil))) (fNil))))) 5))))) (fNop))
  (bOdd2 φd))
def bOdd (φd : Phi) : Fn Ct :=
  fSeq (fSet 2 (fVal (fLst (fCons (fC .non) (fCons (fC (.bl true)) (fCons (fC (.bl false)) (fCons (fC (.str (Str.ofString ""))) (fCons (fVal (fLst (fNil))) (fCons (fTup (fNil)) (fCons (fC (.int 0)) (fCons (fC (.int 1)) (fCons (fUn gNeg (fC (.int 1))) (fCons (fC (.str (Str.ofString "a"))) (fCons (fC (.str (Str.ofString "z"))) (fCons (fC (.str (Str.ofString "A"))) (fCons (fC (.str (Str.ofString "ab"))) (fCons (fBin gPow (fC (.int 10)) (fC (.int 40))) (fCons (fC (.str (Str.ofString "many"))) (fCons (fC (.str (Str.ofString "short"))) (fCons (fC (.str (Str.ofString "by"))) (fCons (fVal (fLst (fCons (fC (.str (Str.ofString "a"))) (fNil)))) (fNil))))))))))))))))))))))
  (fSeq (fSet 2 (fVal (fCatL (fVar 2) (fVal (fLst (fCons (fTup (fCons (fC (.str (Str.ofString "a"))) (fNil))) (fCons (fTup (fCons (fC (.str (Str.ofString "many"))) (fNil))) (fNil))))))))
  (bOdd1 φd))
def oddG : List Dv := [.non, .bl true, .bl false, .str (Str.ofString ""), .ls [], .tup [], .int 0, .int 1, .int (-1), .str (Str.ofString "a"), .str (Str.ofString "z"), .str (Str.ofString "A"), .str (Str.ofString "ab"), .int (10 ^ 40), .str (Str.ofString "many"), .str (Str.ofString "short"), .str (Str.ofString "by"), .ls [.str (Str.ofString "a")]] ++ [.tup [.str (Str.ofString "a")], .tup [.str (Str.ofString "many")]]
def OddS (φ : Phi) : Prop := ∀ (m k n w : Nat) (f : Feed) (r : Sto) (d : Dv), 10 ^ 40 ≤ m → m < 10 ^ 99 → 101 ≤ k → k ≤ 4000 → 1 ≤ n → f.Wf → f.calls < 1000000 → Fl r → w ≤ 160000 → Md m k n w d →
  OkE nX (φ [.loc 0, d] (feedOb f :: r)) fun d' s' => ∃ f' : Feed, Md (m + 1) (k + 1) (n + 1) (2 * w + 400) d' ∧ s' = feedOb f' :: r ∧ f'.Wf ∧ f'.calls = f.calls + 1
def stepQ (m k n w : Nat) (L : List Dv) : Prop := (∀ e ∈ L, Md (m + 1) (k + 1) (n + 1) (2 * w + 400) e) ∧ 1 ≤ L.length
end Z

namespace Z
open PySem PySem.Spec L2

/-! ### a group spoilt -/
def kRevT (T : Dv → Sto → Prop) : Dv → Sto → Prop := fun d s => match d with | .tup ds => T (.tup ds.reverse) s | _ => False
def bSpoil2 (ψ : Phi) : Fn Ct :=
  (fSeq (fIfS (fTest (fBin gEq (fVar 3) (fC (.int 0)))) (fRet (fBin gAdd (fSl (fVar 1) (fNoPart) (fPart (fVar 2))) (fSl (fVar 1) (fPart (fBin gAdd (fVar 2) (fC (.int 1)))) (fNoPart)))) (fNop))
  (fSeq (fIfS (fTest (fBin gEq (fVar 3) (fC (.int 1)))) (fRet (fBin gAdd (fSl (fVar 1) (fNoPart) (fPart (fBin gAdd (fVar 2) (fC (.int 1))))) (fSl (fVar 1) (fPart (fVar 2)) (fNoPart)))) (fNop))
  (fSeq (fIfS (fTest (fBin gEq (fVar 3) (fC (.int 2)))) (fRet (fBin gAdd (fBin gAdd (fSl (fVar 1) (fNoPart) (fPart (fVar 2))) (fRevT (fSl (fVar 1) (fPart (fVar 2)) (fPart (fBin gAdd (fVar 2) (fC (.int 2))))))) (fSl (fVar 1) (fPart (fBin gAdd (fVar 2) (fC (.int 2)))) (fNoPart)))) (fNop))
  (fRet (fBin gAdd (fBin gAdd (fSl (fVar 1) (fNoPart) (fPart (fVar 2))) (fTup (fCons (fCall ψ (fCons (fVar 0) (fCons (fBin gIx (fVar 1) (fVar 2)) (fNil)))) (fNil)))) (fSl (fVar 1) (fPart (fBin gAdd (fVar 2) (fC (.int 1)))) (fNoPart)))))))
def bSpoil (φd φo ψ : Phi) : Fn Ct :=
  fSeq (fIfS (fOrT (fNotT (fTest (fIsi "tuple" (fVar 1)))) (fOrT (fTest (fBin gEq (fCall gLen (fCons (fVar 1) (fNil))) (fC (.int 0)))) (fTest (fBin gEq (fCall φd (fCons (fVar 0) (fCons (fC (.int 6)) (fNil)))) (fC (.int 0)))))) (fRet (fCall φo (fCons (fVar 0) (fCons (fVar 1) (fNil))))) (fNop))
  (fSeq (fSet 2 (fCall φd (fCons (fVar 0) (fCons (fCall gLen (fCons (fVar 1) (fNil))) (fNil)))))
  (fSeq (fSet 3 (fCall φd (fCons (fVar 0) (fCons (fC (.int 9)) (fNil)))))
  (bSpoil2 ψ)))
def SpoilS (j : Nat) (φ : Phi) : Prop := ∀ (m k w : Nat) (f : Feed) (r : Sto) (d : Dv), 10 ^ 40 ≤ m → m < 10 ^ 99 → 101 ≤ k → k ≤ 4000 → f.Wf → f.calls + 5 * j ≤ 1000000 → Fl r → w ≤ 160000 → Md m k j w d →
  OkE nX (φ [.loc 0, d] (feedOb f :: r)) fun d' s' => ∃ f' : Feed, Md (m + 1) (k + 1) (j + 1) (3 * w + 400) d' ∧ s' = feedOb f' :: r ∧ f'.Wf ∧ f.calls ≤ f'.calls ∧ f'.calls ≤ f.calls + 5 * j
end Z

namespace Z
open PySem PySem.Spec L2

/-! ### a text in great letters -/
/-! ### the odd things -/
theorem pickP {L : List Dv} {P : Dv → Prop} (hL : ∀ e ∈ L, P e) {x : Int} (h0 : 0 ≤ x) (h1 : x < (L.length : Int)) : ∃ e, (∀ s : Sto, gIx (.ls L) (.int x) s = .ok e s) ∧ P e := by
  have hx : x.toNat < L.length := by omega
  exact ⟨L[x.toNat], fun s => ix_ls h0 (List.getElem?_eq_getElem hx), hL _ (List.getElem_mem hx)⟩
def bOddT (φt : Phi) : Fn Ct :=
  fSeq (fSet 1 (fVal (fLst (fCons (fC .non) (fCons (fC (.bl true)) (fCons (fC (.bl false)) (fCons (fC (.int 0)) (fCons (fC (.int 1)) (fCons (fUn gNeg (fC (.int 1))) (fCons (fBin gPow (fC (.int 10)) (fC (.int 50))) (fCons (fC (.str (Str.ofString ""))) (fCons (fC (.str (Str.ofString "a"))) (fCons (fC (.str (Str.ofString "A"))) (fCons (fC (.str (Str.ofString "abcdefghi"))) (fCons (fTup (fNil)) (fCons (fVal (fLst (fNil))) (fCons (fTup (fCons (fC (.str (Str.ofString "a"))) (fNil))) (fCons (fVal (fLst (fCons (fC (.str (Str.ofString "a"))) (fNil)))) (fCons (fC (.str (Str.ofString "q"))) (fNil))))))))))))))))))))
  (fRet (fBin gIx (fVar 1) (fCall φt (fCons (fVar 0) (fCons (fC (.int 16)) (fNil))))))
/-- how many a tuple holds -/
def tl : Dv → Nat
  | .tup ds => ds.length
  | _ => 0
def oddTs : List Dv := [.non, .bl true, .bl false, .int 0, .int 1, .int (-1), .int (10 ^ 50), .str (Str.ofString ""), .str (Str.ofString "a"), .str (Str.ofString "A"), .str (Str.ofString "abcdefghi"), .tup [], .ls [], .tup [.str (Str.ofString "a")], .ls [.str (Str.ofString "a")], .str (Str.ofString "q")]
def OddT (φ : Phi) : Prop := ∀ (t : Tap) (r : Sto), t.Wf → t.calls < 1000000 → Fl r → OkE nX (φ [.loc 0] (tapOb t :: r)) fun d s' => ∃ t' : Tap, (Md (10 ^ 50) 9 2 399 d ∧ tl d ≤ 1) ∧ s' = tapOb t' :: r ∧ t'.Wf ∧ t'.calls = t.calls + 1
end Z

namespace Z
open PySem PySem.Spec L2

/-! ### a thing bent -/
def bBendE (φo : Phi) : Fn Ct := (fRet (fCall φo (fCons (fVar 0) (fNil))))
def bBendD (φo : Phi) : Fn Ct :=
  (fSeq (fIfS (fAndT (fTest (fIsi "str" (fVar 1))) (fTest (fBin gLt (fVar 4) (fC (.int 3))))) (fRet (fBin gIx (fVal (fLst (fCons (fBin gAddB (fVar 1) (fC (.str (Str.ofString "a")))) (fCons (fSl (fVar 1) (fPart (fC (.int 1))) (fNoPart)) (fCons (fUn gUpper (fVar 1)) (fNil)))))) (fVar 4))) (fNop))
  (bBendE φo))
def bBendC (φo : Phi) : Fn Ct :=
  (fSeq (fIfS (fAndT (fTest (fIsi "int" (fVar 1))) (fTest (fBin gLt (fVar 4) (fC (.int 4))))) (fRet (fBin gIx (fVal (fLst (fCons (fBin gAddB (fVar 1) (fC (.int 1))) (fCons (fBin gSubB (fVar 1) (fC (.int 1))) (fCons (fBin gEq (fVar 1) (fC (.int 1))) (fCons (fCall gStrB (fCons (fVar 1) (fNil))) (fNil))))))) (fVar 4))) (fNop))
  (bBendD φo))
def bBendT2 (φo : Phi) : Fn Ct :=
  (fSeq (fIfS (fTest (fBin gLt (fVar 4) (fC (.int 5)))) (fRet (fBin gIx (fVal (fLst (fCons (fVal (fCallL gList (fCons (fVar 1) (fNil)))) (fCons (fBin gAddB (fSl (fVar 1) (fNoPart) (fPart (fVar 3))) (fSl (fVar 1) (fPart (fBin gAddB (fVar 3) (fC (.int 1)))) (fNoPart))) (fCons (fBin gAddB (fBin gAddB (fSl (fVar 1) (fNoPart) (fPart (fVar 3))) (fSl (fVar 1) (fPart (fVar 3)) (fPart (fBin gAddB (fVar 3) (fC (.int 1)))))) (fSl (fVar 1) (fPart (fVar 3)) (fNoPart))) (fCons (fTup (fNil)) (fCons (fRevT (fVar 1)) (fNil)))))))) (fVar 4))) (fNop))
  (bBendE φo))
def bBendT (φt φo : Phi) : Fn Ct :=
  (fSeq (fSet 3 (fCall φt (fCons (fVar 0) (fCons (fBin gAddB (fCall gLen (fCons (fVar 1) (fNil))) (fC (.int 1))) (fNil)))))
  (fSeq (fIfS (fTest (fBin gEq (fVar 4) (fC (.int 3)))) (fRet (fBin gAddB (fBin gAddB (fSl (fVar 1) (fNoPart) (fPart (fVar 3))) (fTup (fCons (fCall φo (fCons (fVar 0) (fNil))) (fNil)))) (fSl (fVar 1) (fPart (fVar 3)) (fNoPart)))) (fNop))
  (bBendT2 φo)))
def bBendB (φt φo : Phi) : Fn Ct :=
  (fSeq (fSet 4 (fCall φt (fCons (fVar 0) (fCons (fC (.int 7)) (fNil)))))
  (fSeq (fIfS (fTest (fIsi "tuple" (fVar 1))) (bBendT φt φo) (fNop))
  (bBendC φo)))
def bBendA (φt ψ : Phi) : Fn Ct :=
  (fSeq (fSet 3 (fCall φt (fCons (fVar 0) (fCons (fCall gLen (fCons (fVar 1) (fNil))) (fNil)))))
  (fRet (fBin gAddB (fBin gAddB (fSl (fVar 1) (fNoPart) (fPart (fVar 3))) (fTup (fCons (fCall ψ (fCons (fVar 0) (fCons (fBin gIx (fVar 1) (fVar 3)) (fCons (fBin gSubB (fVar 2) (fC (.int 1))) (fNil))))) (fNil)))) (fSl (fVar 1) (fPart (fBin gAddB (fVar 3) (fC (.int 1)))) (fNoPart)))))
def bBend (φt φo ψ : Phi) : Fn Ct :=
  fSeq (fIfS (fAndT (fTest (fIsi "tuple" (fVar 1))) (fAndT (fTest (fBin gNe (fVar 1) (fTup (fNil)))) (fAndT (fTest (fBin gGt (fVar 2) (fC (.int 0)))) (fTest (fBin gGt (fCall φt (fCons (fVar 0) (fCons (fC (.int 3)) (fNil)))) (fC (.int 0))))))) (bBendA φt ψ) (fNop))
  (bBendB φt φo)
/-- what is asked of it -/
structure BP (m k n w : Nat) : Prop where
  m50 : 10 ^ 50 ≤ m
  m99 : m < 10 ^ 99
  k0 : 101 ≤ k
  k1 : k ≤ 1300
  n1 : 1 ≤ n
  n2 : n ≤ 30
  w1 : w ≤ 50000
def BQ (l m k n w : Nat) (lo hi : Int) (r : Sto) (d : Dv) (s : Sto) : Prop := ∃ t : Tap, Md (m + 1) (3 * k + 1) (n + 2) (3 * w + 400) d ∧ tl d ≤ 3 * l + 1 ∧ s = tapOb t :: r ∧ t.Wf ∧ lo ≤ t.calls ∧ t.calls ≤ hi
end Z

namespace Z
open PySem PySem.Spec L2

/-! ### a tuple bent -/
end Z

namespace Z
open PySem PySem.Spec L2

/-! ### a thing bent, by levels -/
def BendS (j : Nat) (φ : Phi) : Prop := ∀ (l m k n w : Nat) (t : Tap) (r : Sto) (d : Dv) (deep : Int), BP m k n w → t.Wf → t.calls + 5 * j < 1000000 → Fl r → 0 ≤ deep → deep < j → Md m k n w d → tl d ≤ l →
  OkE nX (φ [.loc 0, d, .int deep] (tapOb t :: r)) (BQ l m k n w t.calls (t.calls + 5 * j) r)
end Z

namespace Z
open PySem PySem.Spec L2

/-! ### neighbours in a sorted list -/
/-! ### lots and tallies of any things -/
def isTallyD (n : Nat) : Dv → Bool
  | .tup ds => decide (ds.length = n) && ds.all isFromD
  | _ => false
def areWordsD : Dv → Bool
  | .tup ds => ds.all isWordD
  | _ => false
def isLotsD : Dv → Bool
  | .tup ds => ds.all isWordD && (decide (1 < ds.length) && (match strs? ds with | some zs => decide zs.Nodup | none => false))
  | _ => false
def bWords (φw : Phi) : Fn Ct := fRet (fAnd (fIsi "tuple" (fVar 0)) (fCall gAll (fCons (fVal (fLc (fSrc (fVar 0)) [1] (gNm 1) (fYes) (fCall φw (fCons (fVar 1) (fNil))))) (fNil))))
/-- as ThS, of things that hold few -/
def ThL (φ : Phi) (p : Dv → Bool) : Prop := ∀ (d : Dv) (s : Sto) (T : Dv → Sto → Prop), Thg d → tl d ≤ 4000 → T (.bl (p d)) s → OkE nX (φ [d] s) T
def bIsLots (φa : Phi) : Fn Ct := fRet (fAnd (fCall φa (fCons (fVar 0) (fNil))) (fAnd (fBin gGt (fCall gLen (fCons (fVar 0) (fNil))) (fC (.int 1))) (fBin gEq (fLenSet (fVar 0)) (fCall gLen (fCons (fVar 0) (fNil))))))
end Z

namespace Z
open PySem PySem.Spec L2

/-! ### the law's own look at words, lots, tallies -/
def bWordL1 : Fn Ct :=
  fSeq (fIfS (fOrT (fNotT (fTest (fIsi "str" (fVar 0)))) (fOrT (fTest (fBin gLt (fCall gLen (fCons (fVar 0) (fNil))) (fC (.int 1)))) (fTest (fBin gGt (fCall gLen (fCons (fVar 0) (fNil))) (fC (.int 8)))))) (fRet (fC (.bl false))) (fNop))
  (fRet (fBin gEq (fVal (fLc (fSrcS (fVar 0)) [1] (gNm 1) (fTest (fBin gNotIn (fVar 1) (fC (.str (Str.ofString "abcdefghijklmnopqrstuvwxyz"))))) (fVar 1))) (fVal (fLst (fNil)))))
def TallyOf (φ : Phi) : Prop := ∀ (ls : List Dv) (d : Dv) (s : Sto) (T : Dv → Sto → Prop), ls.length ≤ 1000 → Thg d → T (.bl (isTallyD ls.length d)) s → OkE nX (φ [.tup ls, d] s) T
def bIsTally (φf : Phi) : Fn Ct :=
  fSeq (fIfS (fOrT (fNotT (fTest (fIsi "tuple" (fVar 1)))) (fTest (fBin gNe (fCall gLen (fCons (fVar 1) (fNil))) (fCall gLen (fCons (fVar 0) (fNil)))))) (fRet (fC (.bl false))) (fNop))
  (fRet (fCall gAll (fCons (fVal (fLc (fSrc (fVar 1)) [2] (gNm 2) (fYes) (fCall φf (fCons (fVar 2) (fNil))))) (fNil))))
def bIsTallyL (φn : Phi) : Fn Ct :=
  fSeq (fIfS (fOrT (fNotT (fTest (fIsi "tuple" (fVar 1)))) (fTest (fBin gNe (fCall gLen (fCons (fVar 1) (fNil))) (fCall gLen (fCons (fVar 0) (fNil)))))) (fRet (fC (.bl false))) (fNop))
  (fRet (fBin gEq (fVal (fLc (fSrc (fVar 1)) [2] (gNm 2) (fOrT (fNotT (fTest (fCall φn (fCons (fVar 2) (fNil))))) (fTest (fBin gLt (fVar 2) (fC (.int 0))))) (fVar 2))) (fVal (fLst (fNil)))))
def lAdjT : Fn Bool := fTest (fBin gEq (fBin gIx (fVar 1) (fBin gSub (fVar 2) (fC (.int 1)))) (fBin gIx (fVar 1) (fVar 2)))
def lAdj (tt : Fn Bool) : Fn (List Dv) := fLc (fRng2 (fCons (fC (.int 1)) (fCons (fCall gLen (fCons (fVar 1) (fNil))) (fNil)))) [2] (gNm 2) tt (fVar 2)
def bIsLotsL2 : Fn Ct :=
  (fSeq (fSet 1 (fVal (fCallL gSorted (fCons (fVar 0) (fNil)))))
  (fRet (fBin gEq (fVal (lAdj lAdjT)) (fVal (fLst (fNil))))))
def bIsLotsL (φw : Phi) : Fn Ct :=
  fSeq (fIfS (fOrT (fNotT (fTest (fIsi "tuple" (fVar 0)))) (fOrT (fTest (fBin gLt (fCall gLen (fCons (fVar 0) (fNil))) (fC (.int 2)))) (fTest (fBin gNe (fVal (fLc (fSrc (fVar 0)) [3] (gNm 3) (fNotT (fTest (fCall φw (fCons (fVar 3) (fNil))))) (fVar 3))) (fVal (fLst (fNil))))))) (fRet (fC (.bl false))) (fNop))
  bIsLotsL2
end Z

namespace Z
open PySem PySem.Spec L2

/-! ### a tally drawn, great lots -/
def bTalT (φt : Phi) : Fn Ct :=
  (fSeq (fSet 4 (fBin gAdd (fBin gPow (fC (.int 10)) (fC (.int 49))) (fCall φt (fCons (fVar 0) (fCons (fC (.int 2)) (fNil))))))
  (fDrop (fMt isL gAppend (fVar 2) (fCons (fBin gIx (fVal (fLst (fCons (fC (.int 0)) (fCons (fC (.int 3)) (fCons (fCall φt (fCons (fVar 0) (fCons (fC (.int 5)) (fNil)))) (fCons (fCall φt (fCons (fVar 0) (fCons (fBin gPow (fC (.int 10)) (fC (.int 8))) (fNil)))) (fCons (fVar 4) (fNil)))))))) (fCall φt (fCons (fVar 0) (fCons (fC (.int 5)) (fNil))))) (fNil)))))
def bTallyT0 (b : Fn Ct) : Fn Ct :=
  fSeq (fSet 2 (fNew (fLst (fNil))))
  (fSeq (fFor (fRng1 (fCons (fCall gLen (fCons (fVar 1) (fNil))) (fNil))) (gNm 3) b)
  (fRet (fCall gTuple (fCons (fVar 2) (fNil)))))
theorem bigs : (10 : Int) ^ 49 = 10000000000000000000000000000000000000000000000000 ∧ (10 : Nat) ^ 50 = 100000000000000000000000000000000000000000000000000 := ⟨by decide, by decide⟩
theorem talT_spec {φt : Phi} {b : Fn Ct} (hb : b = bTalT φt) (hT : TakeS φt) {t : Tap} {r : Sto} {zs : List Int} (hw : t.Wf) (hc : t.calls + 10 ≤ 1000000) (hf : Fl r) (hz : zs.length ≤ 1000) {v1 v3 v4 : Option Dv} {R : Ct → Sto → Prop}
    (hR : ∀ (z : Int) (t' : Tap) (v4 : Option Dv), z.natAbs ≤ 10 ^ 50 → t'.Wf → t'.calls = t.calls + 4 → R (.next [some (.loc 0), v1, some (.loc (r.length + 1)), v3, v4]) (tapOb t' :: (r ++ [.lst ((zs ++ [z]).map .int)]))) :
    OkE nX (b [some (.loc 0), v1, some (.loc (r.length + 1)), v3, v4] (tapOb t :: (r ++ [.lst (zs.map .int)]))) R := by
  subst hb
  unfold bTalT
  have hf2 : ∀ zs : List Int, Fl (r ++ [Ob.lst (zs.map .int)]) := fun zs => hf.app (.one (belows_ints _ _))
  have ep : ∀ (k : Int) (s : Sto), 0 ≤ k ∧ k ≤ 1000000 → gPow (.int 10) (.int k) s = .ok (.int (10 ^ k.toNat)) s := fun k s h => pow_ok h (by decide)
  simp only [ok_ok, kDrop_ap, kRet_ap, kSet_ap, kCons2_ap, kCons_ap, kTup_ap, kLst_ap, kVal_ap, kNew_ap, kBin2_ap, kBin_ap, kUn_ap, kCall_ap, kCallL_ap, kNotT_ap, kAndT_ap, kOrT_ap, kIf_ap, kIfS_ap, kAnd_ap, kOr_ap, kNot_ap, kMt2_ap, kMt_ap, kPut4_ap, kPut3_ap, kPut2_ap, kPut_ap, kExt2_ap, kExt_ap, kAsg2_ap, kAsg_ap, kFor_ap, kLc_ap, kSl3_ap, kSl2_ap, kSl_ap, kGs_ap, ok_seq, sq_next, sq_ret, sq_brk, sq_cont, ok_nop, ok_brk, ok_cont, ok_drop, ok_ret, ok_retN, ok_set, ok_var0, ok_varS, ok_c, ok_nil, ok_cons, ok_tup, ok_lst, ok_val, ok_new, ok_bin, ok_un, ok_call, ok_callL, ok_test, tst_bl, ok_notT, ok_andT, ok_orT, ok_if, ok_ifS, ok_and, ok_or, ok_not, ok_mt, ok_put, ok_extend, pr2_mk, ok_par2, ok_asg, ok_for, ok_lc, ok_yes, ok_noPart, prt_int, ok_part, ok_sl, ok_gNm, ok_gTp, ok_gsN, ok_gsC, rg1_mk, rg2_mk, ok_rng1, ok_rng2, srcK_tup, srcK_ls, ok_src, finK_next, finK_ret, List.set_cons_zero, List.set_cons_succ, List.map_cons, List.map_nil, List.replicate, List.cons_append, List.nil_append, List.length_cons, List.length_nil, Bool.false_eq_true, eq_self, if_true, if_false, Nat.zero_add, okX_non, okX_bl, okX_int, okX_str, okX_tup, okX_ls, okX_loc, true_and, ep 49 _ (by decide)]
  refine (hT t _ 2 hw (by omega) (by decide) (by decide) (hf2 zs)).mono ?_
  rintro d' s ⟨x1, t1, rfl, hx10, hx11, rfl, hw1, hc1⟩
  simp only [ok_ok, kDrop_ap, kRet_ap, kSet_ap, kCons2_ap, kCons_ap, kTup_ap, kLst_ap, kVal_ap, kNew_ap, kBin2_ap, kBin_ap, kUn_ap, kCall_ap, kCallL_ap, kNotT_ap, kAndT_ap, kOrT_ap, kIf_ap, kIfS_ap, kAnd_ap, kOr_ap, kNot_ap, kMt2_ap, kMt_ap, kPut4_ap, kPut3_ap, kPut2_ap, kPut_ap, kExt2_ap, kExt_ap, kAsg2_ap, kAsg_ap, kFor_ap, kLc_ap, kSl3_ap, kSl2_ap, kSl_ap, kGs_ap, ok_seq, sq_next, sq_ret, sq_brk, sq_cont, ok_nop, ok_brk, ok_cont, ok_drop, ok_ret, ok_retN, ok_set, ok_var0, ok_varS, ok_c, ok_nil, ok_cons, ok_tup, ok_lst, ok_val, ok_new, ok_bin, ok_un, ok_call, ok_callL, ok_test, tst_bl, ok_notT, ok_andT, ok_orT, ok_if, ok_ifS, ok_and, ok_or, ok_not, ok_mt, ok_put, ok_extend, pr2_mk, ok_par2, ok_asg, ok_for, ok_lc, ok_yes, ok_noPart, prt_int, ok_part, ok_sl, ok_gNm, ok_gTp, ok_gsN, ok_gsC, rg1_mk, rg2_mk, ok_rng1, ok_rng2, srcK_tup, srcK_ls, ok_src, finK_next, finK_ret, List.set_cons_zero, List.set_cons_succ, List.map_cons, List.map_nil, List.replicate, List.cons_append, List.nil_append, List.length_cons, List.length_nil, Bool.false_eq_true, eq_self, if_true, if_false, Nat.zero_add, okX_non, okX_bl, okX_int, okX_str, okX_tup, okX_ls, okX_loc, true_and, add_int]
  refine ⟨isL_loc st_get1, ?_⟩
  refine (hT t1 _ 5 hw1 (by omega) (by decide) (by decide) (hf2 zs)).mono ?_
  rintro d' s ⟨x2, t2, rfl, hx20, hx21, rfl, hw2, hc2⟩
  simp only [ok_ok, kDrop_ap, kRet_ap, kSet_ap, kCons2_ap, kCons_ap, kTup_ap, kLst_ap, kVal_ap, kNew_ap, kBin2_ap, kBin_ap, kUn_ap, kCall_ap, kCallL_ap, kNotT_ap, kAndT_ap, kOrT_ap, kIf_ap, kIfS_ap, kAnd_ap, kOr_ap, kNot_ap, kMt2_ap, kMt_ap, kPut4_ap, kPut3_ap, kPut2_ap, kPut_ap, kExt2_ap, kExt_ap, kAsg2_ap, kAsg_ap, kFor_ap, kLc_ap, kSl3_ap, kSl2_ap, kSl_ap, kGs_ap, ok_seq, sq_next, sq_ret, sq_brk, sq_cont, ok_nop, ok_brk, ok_cont, ok_drop, ok_ret, ok_retN, ok_set, ok_var0, ok_varS, ok_c, ok_nil, ok_cons, ok_tup, ok_lst, ok_val, ok_new, ok_bin, ok_un, ok_call, ok_callL, ok_test, tst_bl, ok_notT, ok_andT, ok_orT, ok_if, ok_ifS, ok_and, ok_or, ok_not, ok_mt, ok_put, ok_extend, pr2_mk, ok_par2, ok_asg, ok_for, ok_lc, ok_yes, ok_noPart, prt_int, ok_part, ok_sl, ok_gNm, ok_gTp, ok_gsN, ok_gsC, rg1_mk, rg2_mk, ok_rng1, ok_rng2, srcK_tup, srcK_ls, ok_src, finK_next, finK_ret, List.set_cons_zero, List.set_cons_succ, List.map_cons, List.map_nil, List.replicate, List.cons_append, List.nil_append, List.length_cons, List.length_nil, Bool.false_eq_true, eq_self, if_true, if_false, Nat.zero_add, okX_non, okX_bl, okX_int, okX_str, okX_tup, okX_ls, okX_loc, true_and, ep 8 _ (by decide)]
  refine (hT t2 _ (10 ^ Int.toNat 8) hw2 (by omega) (by decide) (by decide) (hf2 zs)).mono ?_
  rintro d' s ⟨x3, t3, rfl, hx30, hx31, rfl, hw3, hc3⟩
  have hx31 : x3 < 100000000 := hx31
  simp only [ok_ok, kDrop_ap, kRet_ap, kSet_ap, kCons2_ap, kCons_ap, kTup_ap, kLst_ap, kVal_ap, kNew_ap, kBin2_ap, kBin_ap, kUn_ap, kCall_ap, kCallL_ap, kNotT_ap, kAndT_ap, kOrT_ap, kIf_ap, kIfS_ap, kAnd_ap, kOr_ap, kNot_ap, kMt2_ap, kMt_ap, kPut4_ap, kPut3_ap, kPut2_ap, kPut_ap, kExt2_ap, kExt_ap, kAsg2_ap, kAsg_ap, kFor_ap, kLc_ap, kSl3_ap, kSl2_ap, kSl_ap, kGs_ap, ok_seq, sq_next, sq_ret, sq_brk, sq_cont, ok_nop, ok_brk, ok_cont, ok_drop, ok_ret, ok_retN, ok_set, ok_var0, ok_varS, ok_c, ok_nil, ok_cons, ok_tup, ok_lst, ok_val, ok_new, ok_bin, ok_un, ok_call, ok_callL, ok_test, tst_bl, ok_notT, ok_andT, ok_orT, ok_if, ok_ifS, ok_and, ok_or, ok_not, ok_mt, ok_put, ok_extend, pr2_mk, ok_par2, ok_asg, ok_for, ok_lc, ok_yes, ok_noPart, prt_int, ok_part, ok_sl, ok_gNm, ok_gTp, ok_gsN, ok_gsC, rg1_mk, rg2_mk, ok_rng1, ok_rng2, srcK_tup, srcK_ls, ok_src, finK_next, finK_ret, List.set_cons_zero, List.set_cons_succ, List.map_cons, List.map_nil, List.replicate, List.cons_append, List.nil_append, List.length_cons, List.length_nil, Bool.false_eq_true, eq_self, if_true, if_false, Nat.zero_add, okX_non, okX_bl, okX_int, okX_str, okX_tup, okX_ls, okX_loc, true_and]
  refine ⟨rfl, ?_⟩
  refine (hT t3 _ 5 hw3 (by omega) (by decide) (by decide) (hf2 zs)).mono ?_
  rintro d' s ⟨x4, t4, rfl, hx40, hx41, rfl, hw4, hc4⟩
  obtain ⟨b1, b2⟩ := bigs
  have hk : ((10 : Int) ^ Int.toNat 49 + x1).natAbs ≤ 10 ^ 50 := by
    rw [show Int.toNat 49 = 49 from rfl, b1, b2]; omega
  generalize (10 : Int) ^ Int.toNat 49 + x1 = y at hk ⊢
  obtain ⟨e, he, hP⟩ := pickP (L := [.int 0, .int 3, .int x2, .int x3, .int y]) (P := fun e => ∃ z : Int, e = .int z ∧ z.natAbs ≤ 10 ^ 50) (fun e he => by
    rw [b2] at hk ⊢
    simp only [List.mem_cons, List.not_mem_nil, or_false] at he
    rcases he with rfl | rfl | rfl | rfl | rfl
    · exact ⟨_, rfl, by decide⟩
    · exact ⟨_, rfl, by decide⟩
    · exact ⟨_, rfl, by omega⟩
    · exact ⟨_, rfl, by omega⟩
    · exact ⟨_, rfl, hk⟩) hx40 (show x4 < ((5 : Nat) : Int) from hx41)
  obtain ⟨z, rfl, hz2⟩ := hP
  simp only [ok_ok, kDrop_ap, kRet_ap, kSet_ap, kCons2_ap, kCons_ap, kTup_ap, kLst_ap, kVal_ap, kNew_ap, kBin2_ap, kBin_ap, kUn_ap, kCall_ap, kCallL_ap, kNotT_ap, kAndT_ap, kOrT_ap, kIf_ap, kIfS_ap, kAnd_ap, kOr_ap, kNot_ap, kMt2_ap, kMt_ap, kPut4_ap, kPut3_ap, kPut2_ap, kPut_ap, kExt2_ap, kExt_ap, kAsg2_ap, kAsg_ap, kFor_ap, kLc_ap, kSl3_ap, kSl2_ap, kSl_ap, kGs_ap, ok_seq, sq_next, sq_ret, sq_brk, sq_cont, ok_nop, ok_brk, ok_cont, ok_drop, ok_ret, ok_retN, ok_set, ok_var0, ok_varS, ok_c, ok_nil, ok_cons, ok_tup, ok_lst, ok_val, ok_new, ok_bin, ok_un, ok_call, ok_callL, ok_test, tst_bl, ok_notT, ok_andT, ok_orT, ok_if, ok_ifS, ok_and, ok_or, ok_not, ok_mt, ok_put, ok_extend, pr2_mk, ok_par2, ok_asg, ok_for, ok_lc, ok_yes, ok_noPart, prt_int, ok_part, ok_sl, ok_gNm, ok_gTp, ok_gsN, ok_gsC, rg1_mk, rg2_mk, ok_rng1, ok_rng2, srcK_tup, srcK_ls, ok_src, finK_next, finK_ret, List.set_cons_zero, List.set_cons_succ, List.map_cons, List.map_nil, List.replicate, List.cons_append, List.nil_append, List.length_cons, List.length_nil, Bool.false_eq_true, eq_self, if_true, if_false, Nat.zero_add, okX_non, okX_bl, okX_int, okX_str, okX_tup, okX_ls, okX_loc, true_and]
  rw [he, ok_ok]
  simp only [ok_ok, kDrop_ap, kRet_ap, kSet_ap, kCons2_ap, kCons_ap, kTup_ap, kLst_ap, kVal_ap, kNew_ap, kBin2_ap, kBin_ap, kUn_ap, kCall_ap, kCallL_ap, kNotT_ap, kAndT_ap, kOrT_ap, kIf_ap, kIfS_ap, kAnd_ap, kOr_ap, kNot_ap, kMt2_ap, kMt_ap, kPut4_ap, kPut3_ap, kPut2_ap, kPut_ap, kExt2_ap, kExt_ap, kAsg2_ap, kAsg_ap, kFor_ap, kLc_ap, kSl3_ap, kSl2_ap, kSl_ap, kGs_ap, ok_seq, sq_next, sq_ret, sq_brk, sq_cont, ok_nop, ok_brk, ok_cont, ok_drop, ok_ret, ok_retN, ok_set, ok_var0, ok_varS, ok_c, ok_nil, ok_cons, ok_tup, ok_lst, ok_val, ok_new, ok_bin, ok_un, ok_call, ok_callL, ok_test, tst_bl, ok_notT, ok_andT, ok_orT, ok_if, ok_ifS, ok_and, ok_or, ok_not, ok_mt, ok_put, ok_extend, pr2_mk, ok_par2, ok_asg, ok_for, ok_lc, ok_yes, ok_noPart, prt_int, ok_part, ok_sl, ok_gNm, ok_gTp, ok_gsN, ok_gsC, rg1_mk, rg2_mk, ok_rng1, ok_rng2, srcK_tup, srcK_ls, ok_src, finK_next, finK_ret, List.set_cons_zero, List.set_cons_succ, List.map_cons, List.map_nil, List.replicate, List.cons_append, List.nil_append, List.length_cons, List.length_nil, Bool.false_eq_true, eq_self, if_true, if_false, Nat.zero_add, okX_non, okX_bl, okX_int, okX_str, okX_tup, okX_ls, okX_loc, true_and]
  rw [append_loc st_get1 (by rw [List.length_map]; omega), st_set1, ok_ok]
  simp only [ok_ok, kDrop_ap, kRet_ap, kSet_ap, kCons2_ap, kCons_ap, kTup_ap, kLst_ap, kVal_ap, kNew_ap, kBin2_ap, kBin_ap, kUn_ap, kCall_ap, kCallL_ap, kNotT_ap, kAndT_ap, kOrT_ap, kIf_ap, kIfS_ap, kAnd_ap, kOr_ap, kNot_ap, kMt2_ap, kMt_ap, kPut4_ap, kPut3_ap, kPut2_ap, kPut_ap, kExt2_ap, kExt_ap, kAsg2_ap, kAsg_ap, kFor_ap, kLc_ap, kSl3_ap, kSl2_ap, kSl_ap, kGs_ap, ok_seq, sq_next, sq_ret, sq_brk, sq_cont, ok_nop, ok_brk, ok_cont, ok_drop, ok_ret, ok_retN, ok_set, ok_var0, ok_varS, ok_c, ok_nil, ok_cons, ok_tup, ok_lst, ok_val, ok_new, ok_bin, ok_un, ok_call, ok_callL, ok_test, tst_bl, ok_notT, ok_andT, ok_orT, ok_if, ok_ifS, ok_and, ok_or, ok_not, ok_mt, ok_put, ok_extend, pr2_mk, ok_par2, ok_asg, ok_for, ok_lc, ok_yes, ok_noPart, prt_int, ok_part, ok_sl, ok_gNm, ok_gTp, ok_gsN, ok_gsC, rg1_mk, rg2_mk, ok_rng1, ok_rng2, srcK_tup, srcK_ls, ok_src, finK_next, finK_ret, List.set_cons_zero, List.set_cons_succ, List.map_cons, List.map_nil, List.replicate, List.cons_append, List.nil_append, List.length_cons, List.length_nil, Bool.false_eq_true, eq_self, if_true, if_false, Nat.zero_add, okX_non, okX_bl, okX_int, okX_str, okX_tup, okX_ls, okX_loc, true_and]
  have := hR z t4 (some (.int y)) hz2 hw4 (by omega)
  rw [List.map_append] at this
  exact this
def TallyT (φ : Phi) : Prop := ∀ (t : Tap) (r : Sto) (lots : List Str), t.Wf → t.calls + 1000 ≤ 1000000 → lots.length ≤ 10 → Fl r → OkE nX (φ [.loc 0, .tup (lots.map .str)] (tapOb t :: r)) fun d s' => ∃ (zs : List Int) (t' : Tap), d = .tup (zs.map .int) ∧ zs.length = lots.length ∧ (∀ z ∈ zs, z.natAbs ≤ 10 ^ 50) ∧ s' = tapOb t' :: r ∧ t'.Wf ∧ t.calls ≤ t'.calls ∧ t'.calls ≤ t.calls + 40
theorem tallyT_gen {φt : Phi} (hT : TakeS φt) {bb : Fn Ct} (hbb : bb = bTalT φt) : TallyT (fDef 2 5 (bTallyT0 bb)) := by
  intro t r lots hw hc hl hf
  rw [ok_def]
  refine ⟨rfl, ?_⟩
  unfold bTallyT0
  simp only [ok_ok, kDrop_ap, kRet_ap, kSet_ap, kCons2_ap, kCons_ap, kTup_ap, kLst_ap, kVal_ap, kNew_ap, kBin2_ap, kBin_ap, kUn_ap, kCall_ap, kCallL_ap, kNotT_ap, kAndT_ap, kOrT_ap, kIf_ap, kIfS_ap, kAnd_ap, kOr_ap, kNot_ap, kMt2_ap, kMt_ap, kPut4_ap, kPut3_ap, kPut2_ap, kPut_ap, kExt2_ap, kExt_ap, kAsg2_ap, kAsg_ap, kFor_ap, kLc_ap, kSl3_ap, kSl2_ap, kSl_ap, kGs_ap, ok_seq, sq_next, sq_ret, sq_brk, sq_cont, ok_nop, ok_brk, ok_cont, ok_drop, ok_ret, ok_retN, ok_set, ok_var0, ok_varS, ok_c, ok_nil, ok_cons, ok_tup, ok_lst, ok_val, ok_new, ok_bin, ok_un, ok_call, ok_callL, ok_test, tst_bl, ok_notT, ok_andT, ok_orT, ok_if, ok_ifS, ok_and, ok_or, ok_not, ok_mt, ok_put, ok_extend, pr2_mk, ok_par2, ok_asg, ok_for, ok_lc, ok_yes, ok_noPart, prt_int, ok_part, ok_sl, ok_gNm, ok_gTp, ok_gsN, ok_gsC, rg1_mk, rg2_mk, ok_rng1, ok_rng2, srcK_tup, srcK_ls, ok_src, finK_next, finK_ret, List.set_cons_zero, List.set_cons_succ, List.map_cons, List.map_nil, List.replicate, List.cons_append, List.nil_append, List.length_cons, List.length_nil, Bool.false_eq_true, eq_self, if_true, if_false, Nat.zero_add, okX_non, okX_bl, okX_int, okX_str, okX_tup, okX_ls, okX_loc, true_and, len_tup, List.length_map]
  refine ⟨by decide, inRng_small (by omega) (by omega), ?_⟩
  refine ok_loop (fun i e s => ∃ (t' : Tap) (zs : List Int) (v3 v4 : Option Dv), e = [some (.loc 0), some (.tup (lots.map .str)), some (.loc (r.length + 1)), v3, v4] ∧ s = tapOb t' :: (r ++ [.lst (zs.map .int)]) ∧ zs.length = i ∧ (∀ z ∈ zs, z.natAbs ≤ 10 ^ 50) ∧ t'.Wf ∧ t'.calls = t.calls + 4 * i)
    (fun _ _ _ _ => rfl) (fun i d e s hd h => ?_) (fun e s h => ?_) ⟨t, [], none, none, rfl, rfl, rfl, fun z hz => absurd hz List.not_mem_nil, hw, by omega⟩
  · obtain ⟨t1, zs, v3, v4, rfl, rfl, hzl, hz, hw1, hc1⟩ := h
    obtain ⟨hi, rfl⟩ := rngD_get hd
    simp only [ok_ok, kDrop_ap, kRet_ap, kSet_ap, kCons2_ap, kCons_ap, kTup_ap, kLst_ap, kVal_ap, kNew_ap, kBin2_ap, kBin_ap, kUn_ap, kCall_ap, kCallL_ap, kNotT_ap, kAndT_ap, kOrT_ap, kIf_ap, kIfS_ap, kAnd_ap, kOr_ap, kNot_ap, kMt2_ap, kMt_ap, kPut4_ap, kPut3_ap, kPut2_ap, kPut_ap, kExt2_ap, kExt_ap, kAsg2_ap, kAsg_ap, kFor_ap, kLc_ap, kSl3_ap, kSl2_ap, kSl_ap, kGs_ap, ok_seq, sq_next, sq_ret, sq_brk, sq_cont, ok_nop, ok_brk, ok_cont, ok_drop, ok_ret, ok_retN, ok_set, ok_var0, ok_varS, ok_c, ok_nil, ok_cons, ok_tup, ok_lst, ok_val, ok_new, ok_bin, ok_un, ok_call, ok_callL, ok_test, tst_bl, ok_notT, ok_andT, ok_orT, ok_if, ok_ifS, ok_and, ok_or, ok_not, ok_mt, ok_put, ok_extend, pr2_mk, ok_par2, ok_asg, ok_for, ok_lc, ok_yes, ok_noPart, prt_int, ok_part, ok_sl, ok_gNm, ok_gTp, ok_gsN, ok_gsC, rg1_mk, rg2_mk, ok_rng1, ok_rng2, srcK_tup, srcK_ls, ok_src, finK_next, finK_ret, List.set_cons_zero, List.set_cons_succ, List.map_cons, List.map_nil, List.replicate, List.cons_append, List.nil_append, List.length_cons, List.length_nil, Bool.false_eq_true, eq_self, if_true, if_false, Nat.zero_add, okX_non, okX_bl, okX_int, okX_str, okX_tup, okX_ls, okX_loc, true_and]
    refine talT_spec hbb hT hw1 (by omega) hf (by omega) fun z t2 v4' h1 h2 h3 => ?_
    exact ⟨t2, zs ++ [z], _, _, rfl, rfl, by rw [List.length_append, hzl]; rfl, fun y hy => (List.mem_append.mp hy).elim (hz y) fun h => by rw [List.mem_singleton.mp h]; exact h1, h2, by push_cast; omega⟩
  · obtain ⟨t1, zs, v3, v4, rfl, rfl, hzl, hz, hw1, hc1⟩ := h
    rw [rngD_len] at hzl hc1
    simp only [ok_ok, kDrop_ap, kRet_ap, kSet_ap, kCons2_ap, kCons_ap, kTup_ap, kLst_ap, kVal_ap, kNew_ap, kBin2_ap, kBin_ap, kUn_ap, kCall_ap, kCallL_ap, kNotT_ap, kAndT_ap, kOrT_ap, kIf_ap, kIfS_ap, kAnd_ap, kOr_ap, kNot_ap, kMt2_ap, kMt_ap, kPut4_ap, kPut3_ap, kPut2_ap, kPut_ap, kExt2_ap, kExt_ap, kAsg2_ap, kAsg_ap, kFor_ap, kLc_ap, kSl3_ap, kSl2_ap, kSl_ap, kGs_ap, ok_seq, sq_next, sq_ret, sq_brk, sq_cont, ok_nop, ok_brk, ok_cont, ok_drop, ok_ret, ok_retN, ok_set, ok_var0, ok_varS, ok_c, ok_nil, ok_cons, ok_tup, ok_lst, ok_val, ok_new, ok_bin, ok_un, ok_call, ok_callL, ok_test, tst_bl, ok_notT, ok_andT, ok_orT, ok_if, ok_ifS, ok_and, ok_or, ok_not, ok_mt, ok_put, ok_extend, pr2_mk, ok_par2, ok_asg, ok_for, ok_lc, ok_yes, ok_noPart, prt_int, ok_part, ok_sl, ok_gNm, ok_gTp, ok_gsN, ok_gsC, rg1_mk, rg2_mk, ok_rng1, ok_rng2, srcK_tup, srcK_ls, ok_src, finK_next, finK_ret, List.set_cons_zero, List.set_cons_succ, List.map_cons, List.map_nil, List.replicate, List.cons_append, List.nil_append, List.length_cons, List.length_nil, Bool.false_eq_true, eq_self, if_true, if_false, Nat.zero_add, okX_non, okX_bl, okX_int, okX_str, okX_tup, okX_ls, okX_loc, true_and, tuple_loc st_get1]
    exact fin_tap hf (below_tup (belows_ints _ _)) ⟨zs, t1, rfl, by omega, hz, rfl, hw1, by omega, by omega⟩
def bTallyT (φt : Phi) : Fn Ct := bTallyT0 (bTalT φt)
theorem tallyT_spec {φt : Phi} (hT : TakeS φt) : TallyT (fDef 2 5 (bTallyT φt)) := by
  unfold bTallyT
  exact @tallyT_gen φt hT (bTalT φt) rfl
/-- two signs each -/
def Two2 (gz : List Str) : Prop := gz.length ≤ 60 ∧ ∀ z ∈ gz, PyData.strOk z = true ∧ z.cps.size = 2
def preS (x z : Str) : List Str := z.cps.toList.map fun c => x ++ ⟨#[c]⟩
end Z

namespace Z
open PySem PySem.Spec L2

noncomputable def bLaw2 (φP φT φL φY φR : Phi) : Fn Ct :=
  fSeq (fSet 1 (fCall φP (fCons (fVar 0) (fNil))))
  (fSeq (fSet 2 (fCall φL (fCons (fVar 1) (fCons (fBin gAdd (fC (.int 2)) (fCall φT (fCons (fVar 1) (fCons (fC (.int 5)) (fNil))))) (fNil)))))
  (fSeq (fFor (fRng1 (fCons (fC (.int 3)) (fNil))) (gNm 3) (fSeq (fSet 4 (fCall φY (fCons (fVar 1) (fCons (fVar 2) (fNil)))))
  (fSeq (fSet 5 (fCall gRepr (fCons (fTup (fCons (fVar 2) (fCons (fVar 4) (fNil)))) (fNil))))
  (fIfS (fOrT (fNotT (fTest (fCall φR (fCons (fVar 2) (fCons (fVar 4) (fNil)))))) (fTest (fBin gNe (fCall gRepr (fCons (fTup (fCons (fVar 2) (fCons (fVar 4) (fNil)))) (fNil))) (fVar 5)))) (fRet (fC (.bl false))) (fNop)))))
  (fRet (fC (.bl true)))))
theorem law2_spec {φP φT φL φY φR : Phi} (hP : TapS φP) (hT : TakeS φT) (hL : LotsS φL) (hY : TallyT φY) (hR : Right2 φR) (ns : List Int) : OkE nX (fDef 1 6 (bLaw2 φP φT φL φY φR) [.ls (ns.map .int)] []) (fun d s' => d = .bl true) := by
  rw [ok_def]
  refine ⟨rfl, ?_⟩
  unfold bLaw2
  simp only [ok_ok, kDrop_ap, kRet_ap, kSet_ap, kCons2_ap, kCons_ap, kTup_ap, kLst_ap, kVal_ap, kNew_ap, kBin2_ap, kBin_ap, kUn_ap, kCall_ap, kCallL_ap, kNotT_ap, kAndT_ap, kOrT_ap, kIf_ap, kIfS_ap, kAnd_ap, kOr_ap, kNot_ap, kMt2_ap, kMt_ap, kPut4_ap, kPut3_ap, kPut2_ap, kPut_ap, kExt2_ap, kExt_ap, kAsg2_ap, kAsg_ap, kFor_ap, kLc_ap, kSl3_ap, kSl2_ap, kSl_ap, kGs_ap, ok_seq, sq_next, sq_ret, sq_brk, sq_cont, ok_nop, ok_brk, ok_cont, ok_drop, ok_ret, ok_retN, ok_set, ok_var0, ok_varS, ok_c, ok_nil, ok_cons, ok_tup, ok_lst, ok_val, ok_new, ok_bin, ok_un, ok_call, ok_callL, ok_test, tst_bl, ok_notT, ok_andT, ok_orT, ok_if, ok_ifS, ok_and, ok_or, ok_not, ok_mt, ok_put, ok_extend, pr2_mk, ok_par2, ok_asg, ok_for, ok_lc, ok_yes, ok_noPart, prt_int, ok_part, ok_sl, ok_gNm, ok_gTp, ok_gsN, ok_gsC, rg1_mk, rg2_mk, ok_rng1, ok_rng2, srcK_tup, srcK_ls, ok_src, finK_next, finK_ret, List.set_cons_zero, List.set_cons_succ, List.map_cons, List.map_nil, List.replicate, List.cons_append, List.nil_append, List.length_cons, List.length_nil, Bool.false_eq_true, eq_self, if_true, if_false, Nat.zero_add, okX_non, okX_bl, okX_int, okX_str, okX_tup, okX_ls, okX_loc, true_and]
  refine (hP ns).mono ?_
  rintro d s ⟨t, rfl, rfl, hw, hc0⟩
  simp only [ok_ok, kDrop_ap, kRet_ap, kSet_ap, kCons2_ap, kCons_ap, kTup_ap, kLst_ap, kVal_ap, kNew_ap, kBin2_ap, kBin_ap, kUn_ap, kCall_ap, kCallL_ap, kNotT_ap, kAndT_ap, kOrT_ap, kIf_ap, kIfS_ap, kAnd_ap, kOr_ap, kNot_ap, kMt2_ap, kMt_ap, kPut4_ap, kPut3_ap, kPut2_ap, kPut_ap, kExt2_ap, kExt_ap, kAsg2_ap, kAsg_ap, kFor_ap, kLc_ap, kSl3_ap, kSl2_ap, kSl_ap, kGs_ap, ok_seq, sq_next, sq_ret, sq_brk, sq_cont, ok_nop, ok_brk, ok_cont, ok_drop, ok_ret, ok_retN, ok_set, ok_var0, ok_varS, ok_c, ok_nil, ok_cons, ok_tup, ok_lst, ok_val, ok_new, ok_bin, ok_un, ok_call, ok_callL, ok_test, tst_bl, ok_notT, ok_andT, ok_orT, ok_if, ok_ifS, ok_and, ok_or, ok_not, ok_mt, ok_put, ok_extend, pr2_mk, ok_par2, ok_asg, ok_for, ok_lc, ok_yes, ok_noPart, prt_int, ok_part, ok_sl, ok_gNm, ok_gTp, ok_gsN, ok_gsC, rg1_mk, rg2_mk, ok_rng1, ok_rng2, srcK_tup, srcK_ls, ok_src, finK_next, finK_ret, List.set_cons_zero, List.set_cons_succ, List.map_cons, List.map_nil, List.replicate, List.cons_append, List.nil_append, List.length_cons, List.length_nil, Bool.false_eq_true, eq_self, if_true, if_false, Nat.zero_add, okX_non, okX_bl, okX_int, okX_str, okX_tup, okX_ls, okX_loc, true_and]
  refine (hT t [] 5 hw (by omega) (by decide) (by decide) Fl.nil).mono ?_
  rintro d s ⟨x, t2, rfl, hx0, hx1, rfl, hw2, hc2⟩
  simp only [ok_ok, kDrop_ap, kRet_ap, kSet_ap, kCons2_ap, kCons_ap, kTup_ap, kLst_ap, kVal_ap, kNew_ap, kBin2_ap, kBin_ap, kUn_ap, kCall_ap, kCallL_ap, kNotT_ap, kAndT_ap, kOrT_ap, kIf_ap, kIfS_ap, kAnd_ap, kOr_ap, kNot_ap, kMt2_ap, kMt_ap, kPut4_ap, kPut3_ap, kPut2_ap, kPut_ap, kExt2_ap, kExt_ap, kAsg2_ap, kAsg_ap, kFor_ap, kLc_ap, kSl3_ap, kSl2_ap, kSl_ap, kGs_ap, ok_seq, sq_next, sq_ret, sq_brk, sq_cont, ok_nop, ok_brk, ok_cont, ok_drop, ok_ret, ok_retN, ok_set, ok_var0, ok_varS, ok_c, ok_nil, ok_cons, ok_tup, ok_lst, ok_val, ok_new, ok_bin, ok_un, ok_call, ok_callL, ok_test, tst_bl, ok_notT, ok_andT, ok_orT, ok_if, ok_ifS, ok_and, ok_or, ok_not, ok_mt, ok_put, ok_extend, pr2_mk, ok_par2, ok_asg, ok_for, ok_lc, ok_yes, ok_noPart, prt_int, ok_part, ok_sl, ok_gNm, ok_gTp, ok_gsN, ok_gsC, rg1_mk, rg2_mk, ok_rng1, ok_rng2, srcK_tup, srcK_ls, ok_src, finK_next, finK_ret, List.set_cons_zero, List.set_cons_succ, List.map_cons, List.map_nil, List.replicate, List.cons_append, List.nil_append, List.length_cons, List.length_nil, Bool.false_eq_true, eq_self, if_true, if_false, Nat.zero_add, okX_non, okX_bl, okX_int, okX_str, okX_tup, okX_ls, okX_loc, true_and, add_int]
  refine (hL t2 [] (2 + x) hw2 (by omega) (by omega) (by omega) Fl.nil).mono ?_
  rintro d s ⟨lots, t3, rfl, hll, hn, hpool, rfl, hw3, hg3, hl3⟩
  have hwo : ∀ z ∈ lots, WOk z := fun z hz => (by decide +kernel : ∀ z ∈ pool10, PyData.strOk z = true ∧ z.cps.size ≤ 8) z (hpool z hz)
  simp only [ok_ok, kDrop_ap, kRet_ap, kSet_ap, kCons2_ap, kCons_ap, kTup_ap, kLst_ap, kVal_ap, kNew_ap, kBin2_ap, kBin_ap, kUn_ap, kCall_ap, kCallL_ap, kNotT_ap, kAndT_ap, kOrT_ap, kIf_ap, kIfS_ap, kAnd_ap, kOr_ap, kNot_ap, kMt2_ap, kMt_ap, kPut4_ap, kPut3_ap, kPut2_ap, kPut_ap, kExt2_ap, kExt_ap, kAsg2_ap, kAsg_ap, kFor_ap, kLc_ap, kSl3_ap, kSl2_ap, kSl_ap, kGs_ap, ok_seq, sq_next, sq_ret, sq_brk, sq_cont, ok_nop, ok_brk, ok_cont, ok_drop, ok_ret, ok_retN, ok_set, ok_var0, ok_varS, ok_c, ok_nil, ok_cons, ok_tup, ok_lst, ok_val, ok_new, ok_bin, ok_un, ok_call, ok_callL, ok_test, tst_bl, ok_notT, ok_andT, ok_orT, ok_if, ok_ifS, ok_and, ok_or, ok_not, ok_mt, ok_put, ok_extend, pr2_mk, ok_par2, ok_asg, ok_for, ok_lc, ok_yes, ok_noPart, prt_int, ok_part, ok_sl, ok_gNm, ok_gTp, ok_gsN, ok_gsC, rg1_mk, rg2_mk, ok_rng1, ok_rng2, srcK_tup, srcK_ls, ok_src, finK_next, finK_ret, List.set_cons_zero, List.set_cons_succ, List.map_cons, List.map_nil, List.replicate, List.cons_append, List.nil_append, List.length_cons, List.length_nil, Bool.false_eq_true, eq_self, if_true, if_false, Nat.zero_add, okX_non, okX_bl, okX_int, okX_str, okX_tup, okX_ls, okX_loc, true_and]
  refine ⟨by decide, ?_⟩
  refine ok_loop (fun i env s => ∃ (t' : Tap) (v3 v4 v5 : Option Dv), env = [some (.ls (ns.map .int)), some (.loc 0), some (encS lots), v3, v4, v5] ∧ s = [tapOb t'] ∧ t'.Wf ∧ 0 ≤ t'.calls ∧ t'.calls ≤ 1000 + 1000 * i)
    (fun _ _ _ _ => rfl) (fun i d env s hd h => ?_) (fun env s h => ?_) ⟨t3, _, _, _, rfl, rfl, hw3, by omega, by omega⟩
  · obtain ⟨t4, v3, v4, v5, rfl, rfl, hw4, hg4, hl4⟩ := h
    obtain ⟨hi, rfl⟩ := rngD_get hd
    have hi : i < 3 := hi
    simp only [ok_ok, kDrop_ap, kRet_ap, kSet_ap, kCons2_ap, kCons_ap, kTup_ap, kLst_ap, kVal_ap, kNew_ap, kBin2_ap, kBin_ap, kUn_ap, kCall_ap, kCallL_ap, kNotT_ap, kAndT_ap, kOrT_ap, kIf_ap, kIfS_ap, kAnd_ap, kOr_ap, kNot_ap, kMt2_ap, kMt_ap, kPut4_ap, kPut3_ap, kPut2_ap, kPut_ap, kExt2_ap, kExt_ap, kAsg2_ap, kAsg_ap, kFor_ap, kLc_ap, kSl3_ap, kSl2_ap, kSl_ap, kGs_ap, ok_seq, sq_next, sq_ret, sq_brk, sq_cont, ok_nop, ok_brk, ok_cont, ok_drop, ok_ret, ok_retN, ok_set, ok_var0, ok_varS, ok_c, ok_nil, ok_cons, ok_tup, ok_lst, ok_val, ok_new, ok_bin, ok_un, ok_call, ok_callL, ok_test, tst_bl, ok_notT, ok_andT, ok_orT, ok_if, ok_ifS, ok_and, ok_or, ok_not, ok_mt, ok_put, ok_extend, pr2_mk, ok_par2, ok_asg, ok_for, ok_lc, ok_yes, ok_noPart, prt_int, ok_part, ok_sl, ok_gNm, ok_gTp, ok_gsN, ok_gsC, rg1_mk, rg2_mk, ok_rng1, ok_rng2, srcK_tup, srcK_ls, ok_src, finK_next, finK_ret, List.set_cons_zero, List.set_cons_succ, List.map_cons, List.map_nil, List.replicate, List.cons_append, List.nil_append, List.length_cons, List.length_nil, Bool.false_eq_true, eq_self, if_true, if_false, Nat.zero_add, okX_non, okX_bl, okX_int, okX_str, okX_tup, okX_ls, okX_loc, true_and]
    refine (hY t4 [] lots hw4 (by omega) (by omega) Fl.nil).mono ?_
    rintro d s ⟨ts, t5, rfl, htl, hts, rfl, hw5, hg5⟩
    have hf : Fl [tapOb t5] := Fl.tap Fl.nil
    have rp : ∀ s : Sto, gRepr [.tup [encS lots, .tup (ts.map .int)]] s = .ok (.str (pd (.tup [encS lots, .tup (ts.map .int)])).shown) s := fun s => by
      have h1 := gb_encSQ (xs := lots) hwo
      have hw2 := wbs_le (f := Dv.int) (n := 334) (xs := ts) fun x _ => Nat.le_of_eq (by simp [wb])
      have h3 : gb 2 (.tup (ts.map .int)) = true := by
        rw [gb_tup]
        refine gbs_all fun d hd => ?_
        obtain ⟨x, hx, rfl⟩ := List.mem_map.mp hd
        exact decide_eq_true (Nat.lt_of_le_of_lt (hts x hx) (by decide +kernel))
      refine repr_gb (n := 3) ?_ (by decide) ?_
      · rw [gb_tup]; simp only [gbs, Bool.and_eq_true]
        exact ⟨h1.1, h3, trivial⟩
      · rw [wb_tup]; simp only [wbs, wb_tup]
        have := h1.2
        omega
    simp only [ok_ok, kDrop_ap, kRet_ap, kSet_ap, kCons2_ap, kCons_ap, kTup_ap, kLst_ap, kVal_ap, kNew_ap, kBin2_ap, kBin_ap, kUn_ap, kCall_ap, kCallL_ap, kNotT_ap, kAndT_ap, kOrT_ap, kIf_ap, kIfS_ap, kAnd_ap, kOr_ap, kNot_ap, kMt2_ap, kMt_ap, kPut4_ap, kPut3_ap, kPut2_ap, kPut_ap, kExt2_ap, kExt_ap, kAsg2_ap, kAsg_ap, kFor_ap, kLc_ap, kSl3_ap, kSl2_ap, kSl_ap, kGs_ap, ok_seq, sq_next, sq_ret, sq_brk, sq_cont, ok_nop, ok_brk, ok_cont, ok_drop, ok_ret, ok_retN, ok_set, ok_var0, ok_varS, ok_c, ok_nil, ok_cons, ok_tup, ok_lst, ok_val, ok_new, ok_bin, ok_un, ok_call, ok_callL, ok_test, tst_bl, ok_notT, ok_andT, ok_orT, ok_if, ok_ifS, ok_and, ok_or, ok_not, ok_mt, ok_put, ok_extend, pr2_mk, ok_par2, ok_asg, ok_for, ok_lc, ok_yes, ok_noPart, prt_int, ok_part, ok_sl, ok_gNm, ok_gTp, ok_gsN, ok_gsC, rg1_mk, rg2_mk, ok_rng1, ok_rng2, srcK_tup, srcK_ls, ok_src, finK_next, finK_ret, List.set_cons_zero, List.set_cons_succ, List.map_cons, List.map_nil, List.replicate, List.cons_append, List.nil_append, List.length_cons, List.length_nil, Bool.false_eq_true, eq_self, if_true, if_false, Nat.zero_add, okX_non, okX_bl, okX_int, okX_str, okX_tup, okX_ls, okX_loc, true_and]
    refine ⟨by decide, ?_⟩
    simp only [ok_ok, kDrop_ap, kRet_ap, kSet_ap, kCons2_ap, kCons_ap, kTup_ap, kLst_ap, kVal_ap, kNew_ap, kBin2_ap, kBin_ap, kUn_ap, kCall_ap, kCallL_ap, kNotT_ap, kAndT_ap, kOrT_ap, kIf_ap, kIfS_ap, kAnd_ap, kOr_ap, kNot_ap, kMt2_ap, kMt_ap, kPut4_ap, kPut3_ap, kPut2_ap, kPut_ap, kExt2_ap, kExt_ap, kAsg2_ap, kAsg_ap, kFor_ap, kLc_ap, kSl3_ap, kSl2_ap, kSl_ap, kGs_ap, ok_seq, sq_next, sq_ret, sq_brk, sq_cont, ok_nop, ok_brk, ok_cont, ok_drop, ok_ret, ok_retN, ok_set, ok_var0, ok_varS, ok_c, ok_nil, ok_cons, ok_tup, ok_lst, ok_val, ok_new, ok_bin, ok_un, ok_call, ok_callL, ok_test, tst_bl, ok_notT, ok_andT, ok_orT, ok_if, ok_ifS, ok_and, ok_or, ok_not, ok_mt, ok_put, ok_extend, pr2_mk, ok_par2, ok_asg, ok_for, ok_lc, ok_yes, ok_noPart, prt_int, ok_part, ok_sl, ok_gNm, ok_gTp, ok_gsN, ok_gsC, rg1_mk, rg2_mk, ok_rng1, ok_rng2, srcK_tup, srcK_ls, ok_src, finK_next, finK_ret, List.set_cons_zero, List.set_cons_succ, List.map_cons, List.map_nil, List.replicate, List.cons_append, List.nil_append, List.length_cons, List.length_nil, Bool.false_eq_true, eq_self, if_true, if_false, Nat.zero_add, okX_non, okX_bl, okX_int, okX_str, okX_tup, okX_ls, okX_loc, true_and, rp]
    refine hR lots ts _ _ (by omega) htl hn hwo hf ?_
    simp only [ok_ok, kDrop_ap, kRet_ap, kSet_ap, kCons2_ap, kCons_ap, kTup_ap, kLst_ap, kVal_ap, kNew_ap, kBin2_ap, kBin_ap, kUn_ap, kCall_ap, kCallL_ap, kNotT_ap, kAndT_ap, kOrT_ap, kIf_ap, kIfS_ap, kAnd_ap, kOr_ap, kNot_ap, kMt2_ap, kMt_ap, kPut4_ap, kPut3_ap, kPut2_ap, kPut_ap, kExt2_ap, kExt_ap, kAsg2_ap, kAsg_ap, kFor_ap, kLc_ap, kSl3_ap, kSl2_ap, kSl_ap, kGs_ap, ok_seq, sq_next, sq_ret, sq_brk, sq_cont, ok_nop, ok_brk, ok_cont, ok_drop, ok_ret, ok_retN, ok_set, ok_var0, ok_varS, ok_c, ok_nil, ok_cons, ok_tup, ok_lst, ok_val, ok_new, ok_bin, ok_un, ok_call, ok_callL, ok_test, tst_bl, ok_notT, ok_andT, ok_orT, ok_if, ok_ifS, ok_and, ok_or, ok_not, ok_mt, ok_put, ok_extend, pr2_mk, ok_par2, ok_asg, ok_for, ok_lc, ok_yes, ok_noPart, prt_int, ok_part, ok_sl, ok_gNm, ok_gTp, ok_gsN, ok_gsC, rg1_mk, rg2_mk, ok_rng1, ok_rng2, srcK_tup, srcK_ls, ok_src, finK_next, finK_ret, List.set_cons_zero, List.set_cons_succ, List.map_cons, List.map_nil, List.replicate, List.cons_append, List.nil_append, List.length_cons, List.length_nil, Bool.false_eq_true, eq_self, if_true, if_false, Nat.zero_add, okX_non, okX_bl, okX_int, okX_str, okX_tup, okX_ls, okX_loc, true_and, Bool.not_true]
    try refine ⟨by decide, ?_⟩
    simp only [ok_ok, kDrop_ap, kRet_ap, kSet_ap, kCons2_ap, kCons_ap, kTup_ap, kLst_ap, kVal_ap, kNew_ap, kBin2_ap, kBin_ap, kUn_ap, kCall_ap, kCallL_ap, kNotT_ap, kAndT_ap, kOrT_ap, kIf_ap, kIfS_ap, kAnd_ap, kOr_ap, kNot_ap, kMt2_ap, kMt_ap, kPut4_ap, kPut3_ap, kPut2_ap, kPut_ap, kExt2_ap, kExt_ap, kAsg2_ap, kAsg_ap, kFor_ap, kLc_ap, kSl3_ap, kSl2_ap, kSl_ap, kGs_ap, ok_seq, sq_next, sq_ret, sq_brk, sq_cont, ok_nop, ok_brk, ok_cont, ok_drop, ok_ret, ok_retN, ok_set, ok_var0, ok_varS, ok_c, ok_nil, ok_cons, ok_tup, ok_lst, ok_val, ok_new, ok_bin, ok_un, ok_call, ok_callL, ok_test, tst_bl, ok_notT, ok_andT, ok_orT, ok_if, ok_ifS, ok_and, ok_or, ok_not, ok_mt, ok_put, ok_extend, pr2_mk, ok_par2, ok_asg, ok_for, ok_lc, ok_yes, ok_noPart, prt_int, ok_part, ok_sl, ok_gNm, ok_gTp, ok_gsN, ok_gsC, rg1_mk, rg2_mk, ok_rng1, ok_rng2, srcK_tup, srcK_ls, ok_src, finK_next, finK_ret, List.set_cons_zero, List.set_cons_succ, List.map_cons, List.map_nil, List.replicate, List.cons_append, List.nil_append, List.length_cons, List.length_nil, Bool.false_eq_true, eq_self, if_true, if_false, Nat.zero_add, okX_non, okX_bl, okX_int, okX_str, okX_tup, okX_ls, okX_loc, true_and, rp, ne_str, BEq.rfl, Bool.not_true]
    exact ⟨t5, _, _, _, rfl, rfl, hw5, by omega, by push_cast; omega⟩
  · obtain ⟨t4, v3, v4, v5, rfl, rfl, hw4, hg4, hl4⟩ := h
    simp only [ok_ok, kDrop_ap, kRet_ap, kSet_ap, kCons2_ap, kCons_ap, kTup_ap, kLst_ap, kVal_ap, kNew_ap, kBin2_ap, kBin_ap, kUn_ap, kCall_ap, kCallL_ap, kNotT_ap, kAndT_ap, kOrT_ap, kIf_ap, kIfS_ap, kAnd_ap, kOr_ap, kNot_ap, kMt2_ap, kMt_ap, kPut4_ap, kPut3_ap, kPut2_ap, kPut_ap, kExt2_ap, kExt_ap, kAsg2_ap, kAsg_ap, kFor_ap, kLc_ap, kSl3_ap, kSl2_ap, kSl_ap, kGs_ap, ok_seq, sq_next, sq_ret, sq_brk, sq_cont, ok_nop, ok_brk, ok_cont, ok_drop, ok_ret, ok_retN, ok_set, ok_var0, ok_varS, ok_c, ok_nil, ok_cons, ok_tup, ok_lst, ok_val, ok_new, ok_bin, ok_un, ok_call, ok_callL, ok_test, tst_bl, ok_notT, ok_andT, ok_orT, ok_if, ok_ifS, ok_and, ok_or, ok_not, ok_mt, ok_put, ok_extend, pr2_mk, ok_par2, ok_asg, ok_for, ok_lc, ok_yes, ok_noPart, prt_int, ok_part, ok_sl, ok_gNm, ok_gTp, ok_gsN, ok_gsC, rg1_mk, rg2_mk, ok_rng1, ok_rng2, srcK_tup, srcK_ls, ok_src, finK_next, finK_ret, List.set_cons_zero, List.set_cons_succ, List.map_cons, List.map_nil, List.replicate, List.cons_append, List.nil_append, List.length_cons, List.length_nil, Bool.false_eq_true, eq_self, if_true, if_false, Nat.zero_add, okX_non, okX_bl, okX_int, okX_str, okX_tup, okX_ls, okX_loc, true_and]
    exact ok_gc (b := []) (l := [tapOb t4]) rfl Fl.nil rfl rfl
end Z

namespace Lwk02
open PySem PySem.Spec PyProof.Rows L2 Z
def topS (i : Nat) : Stmt := PySem.Challenge.pw_countbundles_k02_orders.main.body.getD i (.Pass ⟨0, 0, 0, 0⟩)
def bs : List Str := ["tuple", "sorted", "list", "len", "range", "isinstance", "ValueError", "LookupError", "repr"]
def prs : Nat → Bool | 0 => true | 1 => true | 2 => true | 3 => true | 4 => true | 5 => true | 6 => true | 7 => true | 8 => true | 9 => true | 10 => true | 11 => true | _ => false
/-! ### at_of -/
def nm14 : List (Str × NameKind) := [("lots", .local), ("name", .local), ("NoName", .globalImplicit)]
def N14 : List Str := ["lots", "name"]
theorem sc14 : FnScope N14 ["lots", "name"] (defScope (topS 14)) := ⟨rfl, rfl, rfl, by decide +kernel, rfl, by decide +kernel, by decide +kernel⟩
noncomputable def b14 : Fn Ct :=
  fSeq (fIfS (fSure (fTest (fBin gNotIn (fVar 1) (fVar 0)))) (fRaise 5 (fSure (fCons (fVar 1) (fNil)))) (fNop))
  (fSure (fRet (fIndex (fVar 0) (fCons (fVar 1) (fNil)))))
noncomputable def φ14 : Phi := fDefX 2 2 b14
theorem zb14 {G : Gz} {X : Cx} {E : XK} (E5 : ErrC G 5) (c : Cz G bs 14 X N14 nm14 (fun _ => true)) (tk : L2N.Takes X (fun cls d _ H => E cls d H)) : ZXB X (fun cls d _ H => E cls d H) (defBody (topS 14)) b14 :=
  zxs_cons _ (zxs_if (z_notinT c (z_var c (by decide +kernel)) (z_var c (by decide +kernel))) (zxs_one (zxs_raise 5 c (by decide) E5 tk (zxa_sure (z_cons (z_var c (by decide +kernel)) (z_nil))))) (zxb_nil))
  (zxb_sure (z_sone (z_ret (z_index (z_var c (by decide +kernel)) (z_cons (z_var c (by decide +kernel)) (z_nil))))))
/-! ### order_of -/
def nm15 : List (Str × NameKind) := [("lots", .cell), ("tally", .cell), ("tuple", .globalImplicit), ("sorted", .globalImplicit)]
def N15 : List Str := ["lots", "tally", "name"]
theorem sc15 : FnScope N15 ["lots", "tally"] (defScope (topS 15)) := ⟨rfl, rfl, rfl, by decide +kernel, rfl, by decide +kernel, by decide +kernel⟩
noncomputable def b15 : Fn Ct :=
  fRet (fCall gTuple (fCons (fVal (fSortK 2 (fTup (fCons (fBin gSub (fC (.int 0)) (fBin gIx (fVar 1) (fIndex (fVar 0) (fCons (fVar 2) (fNil))))) (fCons (fIndex (fVar 0) (fCons (fVar 2) (fNil))) (fNil)))) (fCons (fVar 0) (fNil)))) (fNil)))
noncomputable def φ15 : Phi := fDef 2 3 b15
theorem zb15 {G : Gz} {X : Cx} {cL PL : Addr} (LZ : Lz G X "order_of" cL PL) (c : Cz G bs 16 X N15 nm15 (fun _ => true)) : ZB X (defBody (topS 15)) b15 :=
  z_sone (z_ret (z_tuple c (z_cons (z_val (z_sortK (a := "name") c LZ (z_cons (z_var c (by decide +kernel)) (z_nil)) (fun XK cK => z_tup (z_cons (z_sub (z_int) (z_ix cK (z_var cK (by decide +kernel)) (z_index (z_var cK (by decide +kernel)) (z_cons (z_var cK (by decide +kernel)) (z_nil))))) (z_cons (z_index (z_var cK (by decide +kernel)) (z_cons (z_var cK (by decide +kernel)) (z_nil))) (z_nil)))))) (z_nil))))
/-! ### place_of -/
def nm16 : List (Str × NameKind) := [("lots", .local), ("tally", .local), ("name", .local), ("at_of", .globalImplicit), ("order_of", .globalImplicit)]
def N16 : List Str := ["lots", "tally", "name"]
theorem sc16 : FnScope N16 ["lots", "tally", "name"] (defScope (topS 16)) := ⟨rfl, rfl, rfl, by decide +kernel, rfl, by decide +kernel, by decide +kernel⟩
noncomputable def b16 : Fn Ct :=
  fSeq (fDrop (fCall φ14 (fSure (fCons (fVar 0) (fCons (fVar 2) (fNil))))))
  (fSure (fRet (fIndex (fCall φ15 (fCons (fVar 0) (fCons (fVar 1) (fNil)))) (fCons (fVar 2) (fNil)))))
noncomputable def φ16 : Phi := fDefX 3 3 b16
theorem zb16 {G : Gz} {X : Cx} {E : XK} (FX14 : FzX G 17 "at_of" 2 φ14) (F15 : Fz G 17 "order_of" 2 φ15) (c : Cz G bs 17 X N16 nm16 (fun _ => true)) (tk : L2N.Takes X (fun cls d _ H => E cls d H)) : ZXB X (fun cls d _ H => E cls d H) (defBody (topS 16)) b16 :=
  zxs_cons _ (zxs_expr (zx_callx c tk FX14 (zxa_sure (z_cons (z_var c (by decide +kernel)) (z_cons (z_var c (by decide +kernel)) (z_nil))))) (hs := c.sW.trans rfl))
  (zxb_sure (z_sone (z_ret (z_index (z_call c F15 (z_cons (z_var c (by decide +kernel)) (z_cons (z_var c (by decide +kernel)) (z_nil)))) (z_cons (z_var c (by decide +kernel)) (z_nil))))))
/-! ### is_ahead -/
def nm17 : List (Str × NameKind) := [("lots", .local), ("tally", .local), ("one", .local), ("other", .local), ("place_of", .globalImplicit)]
def N17 : List Str := ["lots", "tally", "one", "other"]
theorem sc17 : FnScope N17 ["lots", "tally", "one", "other"] (defScope (topS 17)) := ⟨rfl, rfl, rfl, by decide +kernel, rfl, by decide +kernel, by decide +kernel⟩
noncomputable def b17 : Fn Ct :=
  fRet (fBin (sure3 gLt) (fCall φ16 (fSure (fCons (fVar 0) (fCons (fVar 1) (fCons (fVar 2) (fNil)))))) (fCall φ16 (fSure (fCons (fVar 0) (fCons (fVar 1) (fCons (fVar 3) (fNil)))))))
noncomputable def φ17 : Phi := fDefX 4 4 b17
theorem zb17 {G : Gz} {X : Cx} {E : XK} (FX16 : FzX G 18 "place_of" 3 φ16) (c : Cz G bs 18 X N17 nm17 (fun _ => true)) (tk : L2N.Takes X (fun cls d _ H => E cls d H)) : ZXB X (fun cls d _ H => E cls d H) (defBody (topS 17)) b17 :=
  zxs_one (zxs_ret (zx_lt (zx_callx c tk FX16 (zxa_sure (z_cons (z_var c (by decide +kernel)) (z_cons (z_var c (by decide +kernel)) (z_cons (z_var c (by decide +kernel)) (z_nil)))))) (zx_callx c tk FX16 (zxa_sure (z_cons (z_var c (by decide +kernel)) (z_cons (z_var c (by decide +kernel)) (z_cons (z_var c (by decide +kernel)) (z_nil))))))))
/-! ### _law_tap -/
def nm19 : List (Str × NameKind) := [("script", .local), ("list", .globalImplicit)]
def N19 : List Str := ["script"]
theorem sc19 : FnScope N19 ["script"] (defScope (topS 19)) := ⟨rfl, rfl, rfl, by decide +kernel, rfl, by decide +kernel, by decide +kernel⟩
noncomputable def b19 : Fn Ct :=
  fRet (fDict [(fC (.str (Str.ofString "cells")), fVal (fCallL gList (fCons (fSl (fVar 0) (fNoPart) (fPart (fC (.int 63)))) (fNil)))), (fC (.str (Str.ofString "spot")), fC (.int 0)), (fC (.str (Str.ofString "rest")), fC (.int 0)), (fC (.str (Str.ofString "calls")), fC (.int 0))])
noncomputable def φ19 : Phi := fDef 1 1 b19
theorem zb19 {G : Gz} {X : Cx} (c : Cz G bs 20 X N19 nm19 (fun _ => true)) : ZB X (defBody (topS 19)) b19 :=
  z_sone (z_ret (z_dict (zps_cons (z_str) (z_val (z_list c (z_cons (z_slice (z_var c (by decide +kernel)) (zo_none) (zo_some (z_int))) (z_nil)))) (zps_cons (z_str) (z_int) (zps_cons (z_str) (z_int) (zps_cons (z_str) (z_int) (zps_nil)))))))
/-! ### _law_take -/
def nm20 : List (Str × NameKind) := [("tap", .local), ("many", .local), ("calls", .local), ("figure", .local), ("spot", .local), ("cells", .local), ("cell", .local), ("once", .local), ("len", .globalImplicit)]
def N20 : List Str := ["tap", "many", "calls", "figure", "spot", "cells", "cell", "once"]
theorem sc20 : FnScope N20 ["tap", "many"] (defScope (topS 20)) := ⟨rfl, rfl, rfl, by decide +kernel, rfl, by decide +kernel, by decide +kernel⟩
noncomputable def b20 : Fn Ct :=
  fSeq (fSet 2 (fBin gAdd (fBin gIx (fVar 0) (fC (.str (Str.ofString "calls")))) (fC (.int 1))))
  (fSeq (fPut (fVar 0) (fC (.str (Str.ofString "calls"))) (fVar 2))
  (fSeq (fIfS (fTest (fBin gGt (fBin gIx (fVar 0) (fC (.str (Str.ofString "rest")))) (fC (.int 0)))) (fSeq (fSet 3 (fBin gMod (fBin gIx (fVar 0) (fC (.str (Str.ofString "rest")))) (fVar 1)))
  (fSeq (fPut (fVar 0) (fC (.str (Str.ofString "rest"))) (fBin gDiv (fBin gIx (fVar 0) (fC (.str (Str.ofString "rest")))) (fVar 1)))
  (fRet (fVar 3)))) (fNop))
  (fSeq (fSet 4 (fBin gIx (fVar 0) (fC (.str (Str.ofString "spot")))))
  (fSeq (fPut (fVar 0) (fC (.str (Str.ofString "spot"))) (fBin gAdd (fVar 4) (fC (.int 1))))
  (fSeq (fSet 5 (fBin gIx (fVar 0) (fC (.str (Str.ofString "cells")))))
  (fSeq (fSet 6 (fIf (fTest (fBin gGt (fCall gLen (fCons (fVar 5) (fNil))) (fC (.int 0)))) (fBin gIx (fVar 5) (fBin gMod (fVar 4) (fCall gLen (fCons (fVar 5) (fNil))))) (fC (.int 5))))
  (fSeq (fIfS (fAndT (fTest (fBin gLt (fVar 4) (fCall gLen (fCons (fVar 5) (fNil))))) (fTest (fBin gGe (fVar 6) (fBin gPow (fC (.int 10)) (fC (.int 18)))))) (fSeq (fPut (fVar 0) (fC (.str (Str.ofString "rest"))) (fBin gDiv (fVar 6) (fVar 1)))
  (fRet (fBin gMod (fVar 6) (fVar 1)))) (fNop))
  (fSeq (fSet 7 (fBin gMod (fBin gPow (fBin gAdd (fBin gAdd (fBin gMod (fVar 6) (fC (.int 2147483629))) (fBin gMul (fC (.int 6007)) (fVar 2))) (fC (.int 11))) (fC (.int 5))) (fC (.int 2147483647))))
  (fRet (fBin gMod (fBin gDiv (fBin gMod (fBin gPow (fBin gAdd (fVar 7) (fBin gMul (fBin gMul (fC (.int 4099)) (fVar 2)) (fVar 2))) (fC (.int 5))) (fC (.int 2147483587))) (fC (.int 32))) (fVar 1)))))))))))
noncomputable def φ20 : Phi := fDef 2 8 b20
theorem zb20 {G : Gz} {X : Cx} (c : Cz G bs 21 X N20 nm20 (fun _ => true)) : ZB X (defBody (topS 20)) b20 :=
  z_cons2 (z_set c (by decide +kernel) (z_add (z_ix c (z_var c (by decide +kernel)) (z_str)) (z_int)) (hs := c.sW.trans rfl))
  (z_cons2 (z_put c (z_var c (by decide +kernel)) (z_str) (z_var c (by decide +kernel)))
  (z_cons2 (z_ifS (z_gtT c (z_ix c (z_var c (by decide +kernel)) (z_str)) (z_int)) (z_cons2 (z_set c (by decide +kernel) (z_mod (z_ix c (z_var c (by decide +kernel)) (z_str)) (z_var c (by decide +kernel))) (hs := c.sW.trans rfl))
  (z_cons2 (z_put c (z_var c (by decide +kernel)) (z_str) (z_div (z_ix c (z_var c (by decide +kernel)) (z_str)) (z_var c (by decide +kernel))))
  (z_sone (z_ret (z_var c (by decide +kernel)))))) (z_snil))
  (z_cons2 (z_set c (by decide +kernel) (z_ix c (z_var c (by decide +kernel)) (z_str)) (hs := c.sW.trans rfl))
  (z_cons2 (z_put c (z_var c (by decide +kernel)) (z_str) (z_add (z_var c (by decide +kernel)) (z_int)))
  (z_cons2 (z_set c (by decide +kernel) (z_ix c (z_var c (by decide +kernel)) (z_str)) (hs := c.sW.trans rfl))
  (z_cons2 (z_set c (by decide +kernel) (z_if (z_gtT c (z_len c (z_cons (z_var c (by decide +kernel)) (z_nil))) (z_int)) (z_ix c (z_var c (by decide +kernel)) (z_mod (z_var c (by decide +kernel)) (z_len c (z_cons (z_var c (by decide +kernel)) (z_nil))))) (z_int)) (hs := c.sW.trans rfl))
  (z_cons2 (z_ifS (z_wT (w_and (z_ltT c (z_var c (by decide +kernel)) (z_len c (z_cons (z_var c (by decide +kernel)) (z_nil)))) (w_and1 (z_geT c (z_var c (by decide +kernel)) (z_pow (z_int) (z_int)))))) (z_cons2 (z_put c (z_var c (by decide +kernel)) (z_str) (z_div (z_var c (by decide +kernel)) (z_var c (by decide +kernel))))
  (z_sone (z_ret (z_mod (z_var c (by decide +kernel)) (z_var c (by decide +kernel)))))) (z_snil))
  (z_cons2 (z_set c (by decide +kernel) (z_mod (z_pow (z_add (z_add (z_mod (z_var c (by decide +kernel)) (z_int)) (z_mul (z_int) (z_var c (by decide +kernel)))) (z_int)) (z_int)) (z_int)) (hs := c.sW.trans rfl))
  (z_sone (z_ret (z_mod (z_div (z_mod (z_pow (z_add (z_var c (by decide +kernel)) (z_mul (z_mul (z_int) (z_var c (by decide +kernel))) (z_var c (by decide +kernel)))) (z_int)) (z_int)) (z_int)) (z_var c (by decide +kernel)))))))))))))
/-! ### _law_lots -/
def nm21 : List (Str × NameKind) := [("tap", .cell), ("many", .local), ("pool", .cell), ("tuple", .globalImplicit), ("range", .globalImplicit)]
def N21 : List Str := ["tap", "many", "pool", "k"]
theorem sc21 : FnScope N21 ["tap", "many"] (defScope (topS 21)) := ⟨rfl, rfl, rfl, by decide +kernel, rfl, by decide +kernel, by decide +kernel⟩
noncomputable def b21 : Fn Ct :=
  fSeq (fSet 2 (fNew (fLst (fCons (fC (.str (Str.ofString "a"))) (fCons (fC (.str (Str.ofString "ab"))) (fCons (fC (.str (Str.ofString "abc"))) (fCons (fC (.str (Str.ofString "b"))) (fCons (fC (.str (Str.ofString "bell"))) (fCons (fC (.str (Str.ofString "told"))) (fCons (fC (.str (Str.ofString "x"))) (fCons (fC (.str (Str.ofString "zz"))) (fCons (fC (.str (Str.ofString "zzzzzzzz"))) (fCons (fC (.str (Str.ofString "as"))) (fNil))))))))))))))
  (fRet (fCall gTuple (fCons (fVal (fLc (fRng1 (fCons (fVar 1) (fNil))) [3] (gNm 3) (fYes) (fMt isL gPopAt (fVar 2) (fCons (fCall φ20 (fCons (fVar 0) (fCons (fCall gLen (fCons (fVar 2) (fNil))) (fNil)))) (fNil))))) (fNil))))
noncomputable def φ21 : Phi := fDef 2 4 b21
theorem zb21 {G : Gz} {X : Cx} (F20 : Fz G 22 "_law_take" 2 φ20) (c : Cz G bs 22 X N21 nm21 (fun _ => true)) : ZB X (defBody (topS 21)) b21 :=
  z_cons2 (z_set c (by decide +kernel) (z_new (z_lst (z_cons (z_str) (z_cons (z_str) (z_cons (z_str) (z_cons (z_str) (z_cons (z_str) (z_cons (z_str) (z_cons (z_str) (z_cons (z_str) (z_cons (z_str) (z_cons (z_str) (z_nil))))))))))))) (hs := c.sW.trans rfl))
  (z_sone (z_ret (z_tuple c (z_cons (z_val (z_lc (q := false) c [("k", 3)] (zi_rng1 c (z_cons (z_var c (by decide +kernel)) (z_nil))) (fun Xc1 c1 => ⟨zg_name c1 (by decide +kernel), zts_nil, z_popAt (z_var c1 (by decide +kernel)) (z_cons (z_call c1 F20 (z_cons (z_var c1 (by decide +kernel)) (z_cons (z_len c1 (z_cons (z_var c1 (by decide +kernel)) (z_nil))) (z_nil)))) (z_nil))⟩))) (z_nil)))))
/-! ### _law_tally -/
def nm22 : List (Str × NameKind) := [("tap", .local), ("lots", .local), ("rows", .local), ("k", .local), ("near", .local), ("range", .globalImplicit), ("len", .globalImplicit), ("_law_take", .globalImplicit), ("tuple", .globalImplicit)]
def N22 : List Str := ["tap", "lots", "rows", "k", "near"]
theorem sc22 : FnScope N22 ["tap", "lots"] (defScope (topS 22)) := ⟨rfl, rfl, rfl, by decide +kernel, rfl, by decide +kernel, by decide +kernel⟩
noncomputable def b22 : Fn Ct :=
  fSeq (fSet 2 (fNew (fLst (fNil))))
  (fSeq (fFor (fRng1 (fCons (fCall gLen (fCons (fVar 1) (fNil))) (fNil))) (gNm 3) (fSeq (fSet 4 (fBin gAdd (fBin gPow (fC (.int 10)) (fC (.int 49))) (fCall φ20 (fCons (fVar 0) (fCons (fC (.int 2)) (fNil))))))
  (fDrop (fMt isL gAppend (fVar 2) (fCons (fBin gIx (fVal (fLst (fCons (fC (.int 0)) (fCons (fC (.int 3)) (fCons (fCall φ20 (fCons (fVar 0) (fCons (fC (.int 5)) (fNil)))) (fCons (fCall φ20 (fCons (fVar 0) (fCons (fBin gPow (fC (.int 10)) (fC (.int 8))) (fNil)))) (fCons (fVar 4) (fNil)))))))) (fCall φ20 (fCons (fVar 0) (fCons (fC (.int 5)) (fNil))))) (fNil))))))
  (fRet (fCall gTuple (fCons (fVar 2) (fNil)))))
noncomputable def φ22 : Phi := fDef 2 5 b22
theorem zb22 {G : Gz} {X : Cx} (F20 : Fz G 23 "_law_take" 2 φ20) (c : Cz G bs 23 X N22 nm22 (fun _ => true)) : ZB X (defBody (topS 22)) b22 :=
  z_cons2 (z_set c (by decide +kernel) (z_new (z_lst (z_nil))) (hs := c.sW.trans rfl))
  (z_cons2 (z_for (q := false) c (zi_rng1 c (z_cons (z_len c (z_cons (z_var c (by decide +kernel)) (z_nil))) (z_nil))) (zg_name c (by decide +kernel)) (z_cons2 (z_set c (by decide +kernel) (z_add (z_pow (z_int) (z_int)) (z_call c F20 (z_cons (z_var c (by decide +kernel)) (z_cons (z_int) (z_nil))))) (hs := c.sW.trans rfl))
  (z_sone (z_expr (z_append (z_var c (by decide +kernel)) (z_cons (z_ix c (z_val (z_lst (z_cons (z_int) (z_cons (z_int) (z_cons (z_call c F20 (z_cons (z_var c (by decide +kernel)) (z_cons (z_int) (z_nil)))) (z_cons (z_call c F20 (z_cons (z_var c (by decide +kernel)) (z_cons (z_pow (z_int) (z_int)) (z_nil)))) (z_cons (z_var c (by decide +kernel)) (z_nil)))))))) (z_call c F20 (z_cons (z_var c (by decide +kernel)) (z_cons (z_int) (z_nil))))) (z_nil))) (hs := c.sW.trans rfl)))))
  (z_sone (z_ret (z_tuple c (z_cons (z_var c (by decide +kernel)) (z_nil))))))
/-! ### _law_flags -/
def nm23 : List (Str × NameKind) := [("e", .local), ("found", .local), ("isinstance", .globalImplicit), ("CountError", .globalImplicit), ("ValueError", .globalImplicit), ("LostError", .globalImplicit), ("LookupError", .globalImplicit), ("NoPaper", .globalImplicit), ("NoEnd", .globalImplicit), ("NoPage", .globalImplicit), ("NoText", .globalImplicit), ("NoRow", .globalImplicit), ("NoName", .globalImplicit), ("NoPile", .globalImplicit), ("NoStep", .globalImplicit), ("NoPart", .globalImplicit), ("NoBack", .globalImplicit)]
def N23 : List Str := ["e", "found"]
theorem sc23 : FnScope N23 ["e"] (defScope (topS 23)) := ⟨rfl, rfl, rfl, by decide +kernel, rfl, by decide +kernel, by decide +kernel⟩
def b23 (a dd : Addr) (cn : Nat) : Fn Ct :=
  fSeq (fSet 1 (fNew (fLst (fCons (fAnd (fIsx a dd cn (.own 10) (fVar 0)) (fIsx a dd cn (.base false) (fVar 0))) (fNil)))))
  (fSeq (fDrop (fMt isL gAppend (fVar 1) (fCons (fAnd (fIsx a dd cn (.own 11) (fVar 0)) (fIsx a dd cn (.base true) (fVar 0))) (fNil))))
  (fSeq (fSet 1 (fNew (fCatL (fVar 1) (fVal (fLst (fCons (fIsx a dd cn (.own 0) (fVar 0)) (fCons (fIsx a dd cn (.own 1) (fVar 0)) (fCons (fIsx a dd cn (.own 2) (fVar 0)) (fCons (fIsx a dd cn (.own 3) (fVar 0)) (fNil))))))))))
  (fSeq (fSet 1 (fNew (fCatL (fVar 1) (fVal (fLst (fCons (fIsx a dd cn (.own 4) (fVar 0)) (fCons (fIsx a dd cn (.own 5) (fVar 0)) (fCons (fIsx a dd cn (.own 6) (fVar 0)) (fCons (fIsx a dd cn (.own 7) (fVar 0)) (fNil))))))))))
  (fRet (fVal (fCatL (fVar 1) (fVal (fLst (fCons (fIsx a dd cn (.own 8) (fVar 0)) (fCons (fIsx a dd cn (.own 9) (fVar 0)) (fNil)))))))))))
def φ23 : PhiH := fun a dd cn => fDef 1 2 (b23 a dd cn)
theorem zb23 {G : Gz} {X : Cx} {a dd : Addr} {cn : Nat} (c : Ch prs G bs 24 X N23 nm23 a dd cn) : ZB X (defBody (topS 23)) (b23 a dd cn) :=
  z_cons2 (zh_set c (by decide +kernel) (z_new (z_lst (z_cons (z_and (zh_isx (.own 10) c (zh_var c (by decide +kernel))) (z_one (zh_isx (.base false) c (zh_var c (by decide +kernel))))) (z_nil)))))
  (z_cons2 (z_expr (z_append (zh_var c (by decide +kernel)) (z_cons (z_and (zh_isx (.own 11) c (zh_var c (by decide +kernel))) (z_one (zh_isx (.base true) c (zh_var c (by decide +kernel))))) (z_nil))))
  (z_cons2 (zh_set c (by decide +kernel) (z_new (z_catL (zh_var c (by decide +kernel)) (z_val (z_lst (z_cons (zh_isx (.own 0) c (zh_var c (by decide +kernel))) (z_cons (zh_isx (.own 1) c (zh_var c (by decide +kernel))) (z_cons (zh_isx (.own 2) c (zh_var c (by decide +kernel))) (z_cons (zh_isx (.own 3) c (zh_var c (by decide +kernel))) (z_nil))))))))))
  (z_cons2 (zh_set c (by decide +kernel) (z_new (z_catL (zh_var c (by decide +kernel)) (z_val (z_lst (z_cons (zh_isx (.own 4) c (zh_var c (by decide +kernel))) (z_cons (zh_isx (.own 5) c (zh_var c (by decide +kernel))) (z_cons (zh_isx (.own 6) c (zh_var c (by decide +kernel))) (z_cons (zh_isx (.own 7) c (zh_var c (by decide +kernel))) (z_nil))))))))))
  (z_sone (z_ret (z_val (z_catL (zh_var c (by decide +kernel)) (z_val (z_lst (z_cons (zh_isx (.own 8) c (zh_var c (by decide +kernel))) (z_cons (zh_isx (.own 9) c (zh_var c (by decide +kernel))) (z_nil))))))))))))
/-! ### _law_heard -/
def nm24 : List (Str × NameKind) := [("ask", .local), ("found", .local), ("e", .local), ("flags", .local), ("whole", .local), ("CountError", .globalImplicit), ("LostError", .globalImplicit), ("_law_flags", .globalImplicit), ("isinstance", .globalImplicit), ("NoPaper", .globalImplicit), ("NoEnd", .globalImplicit), ("NoPart", .globalImplicit), ("NoName", .globalImplicit), ("NoPile", .globalImplicit)]
def N24 : List Str := ["ask", "found", "e", "flags", "whole"]
theorem sc24 : FnScope N24 ["ask"] (defScope (topS 24)) := ⟨rfl, rfl, rfl, by decide +kernel, rfl, by decide +kernel, by decide +kernel⟩
def gs24 (a dd : Addr) (cn : Nat) : Fn Ct :=
  fSeq (fSet 3 (fCall (φ23 a dd cn) (fCons (fVar 2) (fNil))))
  (fSeq (fSet 4 (fAnd (fBin gEqF (fMt isL gCountL (fVar 3) (fCons (fC (.bl true)) (fNil))) (fC (.int 2))) (fBin gEqF (fBin gIxS (fVar 3) (fC (.int 0))) (fBin gIn (fC (.bl true)) (fSl (fVar 3) (fPart (fC (.int 2))) (fPart (fC (.int 7))))))))
  (fIfS (fAndT (fTest (fVar 4)) (fTest (fIsx a dd cn (.own 0) (fVar 2)))) (fSet 1 (fTup (fCons (fC (.str (Str.ofString "paper"))) (fCons (fFldX a dd cn (Str.ofString "word") (fVar 2)) (fCons (fFldX a dd cn (Str.ofString "at") (fVar 2)) (fNil)))))) (fIfS (fAndT (fTest (fVar 4)) (fTest (fIsxT a dd cn [(.own 1), (.own 8)] (fVar 2)))) (fSet 1 (fTup (fCons (fIf (fTest (fBin gIxS (fVar 3) (fC (.int 3)))) (fC (.str (Str.ofString "end"))) (fC (.str (Str.ofString "part")))) (fCons (fFldX a dd cn (Str.ofString "number") (fVar 2)) (fNil))))) (fIfS (fAndT (fTest (fVar 4)) (fTest (fIsx a dd cn (.own 5) (fVar 2)))) (fSet 1 (fTup (fCons (fC (.str (Str.ofString "name"))) (fCons (fFldX a dd cn (Str.ofString "name") (fVar 2)) (fNil))))) (fIfS (fAndT (fTest (fVar 4)) (fTest (fIsx a dd cn (.own 6) (fVar 2)))) (fSet 1 (fTup (fCons (fC (.str (Str.ofString "pile"))) (fCons (fFldX a dd cn (Str.ofString "pile") (fVar 2)) (fNil))))) (fNop))))))
theorem hb24 {G : Gz} (F23 : FzH prs G 25 "_law_flags" 1 φ23) : HeardB prs G bs 25 N24 nm24 (topS 24) gs24 :=
  ⟨sc24, rfl, rfl, rfl, rfl, by decide +kernel, by decide +kernel, by decide +kernel, by decide +kernel, by decide +kernel, ⟨_, _, _, _, _, _, _, _, _, _, _, _, _, _, _, _, _, _, _, _, _, _, _, _, rfl, fun XH a dd cn cH => z_cons2 (zh_set cH (by decide +kernel) (zh_call cH F23 (z_cons (zh_var cH (by decide +kernel)) (z_nil))))
  (z_cons2 (zh_set cH (by decide +kernel) (z_and (zh_eq (z_countL (zh_var cH (by decide +kernel)) (z_cons (z_bl) (z_nil))) (z_int)) (z_one (zh_eq (zh_ix (zh_var cH (by decide +kernel)) (z_int)) (zh_in (z_bl) (z_slice (zh_var cH (by decide +kernel)) (zo_some (z_int)) (zo_some (z_int))))))))
  (z_sone (z_ifS (z_wT (w_and (z_valT (zh_var cH (by decide +kernel))) (w_and1 (z_valT (zh_isx (.own 0) cH (zh_var cH (by decide +kernel))))))) (z_sone (zh_set cH (by decide +kernel) (z_tup (z_cons (z_str) (z_cons (zh_fld (Str.ofString "word") cH (zh_var cH (by decide +kernel))) (z_cons (zh_fld (Str.ofString "at") cH (zh_var cH (by decide +kernel))) (z_nil))))))) (z_sone (z_ifS (z_wT (w_and (z_valT (zh_var cH (by decide +kernel))) (w_and1 (z_valT (zh_isxT [((.own 1), _), ((.own 8), _)] cH (zh_var cH (by decide +kernel))))))) (z_sone (zh_set cH (by decide +kernel) (z_tup (z_cons (z_if (z_valT (zh_ix (zh_var cH (by decide +kernel)) (z_int))) (z_str) (z_str)) (z_cons (zh_fld (Str.ofString "number") cH (zh_var cH (by decide +kernel))) (z_nil)))))) (z_sone (z_ifS (z_wT (w_and (z_valT (zh_var cH (by decide +kernel))) (w_and1 (z_valT (zh_isx (.own 5) cH (zh_var cH (by decide +kernel))))))) (z_sone (zh_set cH (by decide +kernel) (z_tup (z_cons (z_str) (z_cons (zh_fld (Str.ofString "name") cH (zh_var cH (by decide +kernel))) (z_nil)))))) (z_sone (z_ifS (z_wT (w_and (z_valT (zh_var cH (by decide +kernel))) (w_and1 (z_valT (zh_isx (.own 6) cH (zh_var cH (by decide +kernel))))))) (z_sone (zh_set cH (by decide +kernel) (z_tup (z_cons (z_str) (z_cons (zh_fld (Str.ofString "pile") cH (zh_var cH (by decide +kernel))) (z_nil)))))) (z_snil))))))))))⟩⟩
/-! ### _law_order -/
def nm25 : List (Str × NameKind) := [("lots", .cell), ("tally", .cell), ("found", .local), ("k", .cell), ("at", .local), ("range", .globalImplicit), ("len", .globalImplicit), ("tuple", .globalImplicit)]
def N25 : List Str := ["lots", "tally", "found", "k", "at", "one"]
theorem sc25 : FnScope N25 ["lots", "tally"] (defScope (topS 25)) := ⟨rfl, rfl, rfl, by decide +kernel, rfl, by decide +kernel, by decide +kernel⟩
noncomputable def b25 : Fn Ct :=
  fSeq (fSet 2 (fNew (fLst (fNil))))
  (fSeq (fFor (fRng1 (fCons (fCall gLen (fCons (fVar 0) (fNil))) (fNil))) (gNm 3) (fSeq (fSet 4 (fCall gLen (fCons (fVal (fLc (fSrc (fVar 2)) [5] (gNm 5) (fTest (fBin gGe (fBin gIx (fVar 1) (fIndex (fVar 0) (fCons (fVar 5) (fNil)))) (fBin gIx (fVar 1) (fVar 3)))) (fVar 5))) (fNil))))
  (fDrop (fMt isL gInsert (fVar 2) (fCons (fVar 4) (fCons (fBin gIx (fVar 0) (fVar 3)) (fNil)))))))
  (fRet (fCall gTuple (fCons (fVar 2) (fNil)))))
noncomputable def φ25 : Phi := fDef 2 6 b25
theorem zb25 {G : Gz} {X : Cx} (c : Cz G bs 26 X N25 nm25 (fun _ => true)) : ZB X (defBody (topS 25)) b25 :=
  z_cons2 (z_set c (by decide +kernel) (z_new (z_lst (z_nil))) (hs := c.sW.trans rfl))
  (z_cons2 (z_for (q := false) c (zi_rng1 c (z_cons (z_len c (z_cons (z_var c (by decide +kernel)) (z_nil))) (z_nil))) (zg_name c (by decide +kernel)) (z_cons2 (z_set c (by decide +kernel) (z_len c (z_cons (z_val (z_lc (q := false) c [("one", 5)] (zi_seq (z_var c (by decide +kernel))) (fun Xc1 c1 => ⟨zg_name c1 (by decide +kernel), zts_one (z_geT c1 (z_ix c1 (z_var c1 (by decide +kernel)) (z_index (z_var c1 (by decide +kernel)) (z_cons (z_var c1 (by decide +kernel)) (z_nil)))) (z_ix c1 (z_var c1 (by decide +kernel)) (z_var c1 (by decide +kernel)))), z_var c1 (by decide +kernel)⟩))) (z_nil))) (hs := c.sW.trans rfl))
  (z_sone (z_expr (z_insert (z_var c (by decide +kernel)) (z_cons (z_var c (by decide +kernel)) (z_cons (z_ix c (z_var c (by decide +kernel)) (z_var c (by decide +kernel))) (z_nil)))) (hs := c.sW.trans rfl)))))
  (z_sone (z_ret (z_tuple c (z_cons (z_var c (by decide +kernel)) (z_nil))))))
/-! ### _law_right -/
def nm26 : List (Str × NameKind) := [("lots", .cell), ("tally", .cell), ("due", .local), ("words", .local), ("place", .local), ("strange", .local), ("ahead", .local), ("one", .cell), ("other", .cell), ("_law_order", .globalImplicit), ("repr", .globalImplicit), ("order_of", .globalImplicit), ("list", .globalImplicit), ("_law_heard", .globalImplicit)]
def N26 : List Str := ["lots", "tally", "due", "words", "place", "strange", "ahead", "one", "other", "word"]
theorem sc26 : FnScope N26 ["lots", "tally"] (defScope (topS 26)) := ⟨rfl, rfl, rfl, by decide +kernel, rfl, by decide +kernel, by decide +kernel⟩
noncomputable def b26 : Fn Ct :=
  fSeq (fSet 2 (fCall φ25 (fCons (fVar 0) (fCons (fVar 1) (fNil)))))
  (fSeq (fIfS (fTest (fBin gNe (fCall gRepr (fCons (fCall φ15 (fCons (fVar 0) (fCons (fVar 1) (fNil)))) (fNil))) (fCall gRepr (fCons (fVar 2) (fNil))))) (fRet (fC (.bl false))) (fNop))
  (fSeq (fSet 3 (fVal (fCatL (fVal (fCallL gList (fCons (fVar 0) (fNil)))) (fVal (fLst (fCons (fC (.str (Str.ofString "q"))) (fCons (fC (.str (Str.ofString "nought"))) (fNil))))))))
  (fSeq (fFor (fSrc (fVar 3)) (gNm 7) (fSeq (fSet 4 (fIf (fTest (fBin gIn (fVar 7) (fVar 0))) (fTup (fCons (fC (.str (Str.ofString "told"))) (fCons (fIndex (fVar 2) (fCons (fVar 7) (fNil))) (fNil)))) (fTup (fCons (fC (.str (Str.ofString "name"))) (fCons (fVar 7) (fNil))))))
  (fSeq (fIfS (fTest (fBin gNe (fCall gRepr (fCons (fHeard prs N24.length gs24 (fCall φ16 (fSure (fCons (fVar 0) (fCons (fVar 1) (fCons (fVar 7) (fNil))))))) (fNil))) (fCall gRepr (fCons (fVar 4) (fNil))))) (fRet (fC (.bl false))) (fNop))
  (fFor (fSrc (fVar 3)) (gNm 8) (fSeq (fSet 5 (fVal (fLc (fSrc (fTup (fCons (fVar 7) (fCons (fVar 8) (fNil))))) [9] (gNm 9) (fTest (fBin gNotIn (fVar 9) (fVar 0))) (fVar 9))))
  (fSeq (fSet 6 (fIf (fTest (fBin gNe (fVar 5) (fVal (fLst (fNil))))) (fTup (fCons (fC (.str (Str.ofString "name"))) (fCons (fBin gIx (fVar 5) (fC (.int 0))) (fNil)))) (fTup (fCons (fC (.str (Str.ofString "told"))) (fCons (fBin gLt (fIndex (fVar 2) (fCons (fVar 7) (fNil))) (fIndex (fVar 2) (fCons (fVar 8) (fNil)))) (fNil))))))
  (fIfS (fTest (fBin gNe (fCall gRepr (fCons (fHeard prs N24.length gs24 (fCall φ17 (fSure (fCons (fVar 0) (fCons (fVar 1) (fCons (fVar 7) (fCons (fVar 8) (fNil)))))))) (fNil))) (fCall gRepr (fCons (fVar 6) (fNil))))) (fRet (fC (.bl false))) (fNop))))))))
  (fRet (fC (.bl true))))))
noncomputable def φ26 : Phi := fDef 2 10 b26
theorem zb26 {G : Gz} {X : Cx} {cL PL : Addr} (LZ : Lz G X "_law_right" cL PL) {TA : Nat → Addr} (TE : ErrsT G.K G.mg TA prs) {gH : Addr} {fdH : FuncData} (U24 : Fun G.K "_law_heard" "_law_heard" (topS 24) gH fdH) (m24 : G.mg "_law_heard" = some (.ref gH)) (bd24 : Binds G.K fdH ["ask"] []) (HB24 : HeardB prs G bs 25 N24 nm24 (topS 24) gs24) (FAX16 : FzX G 24 "place_of" 3 φ16) (FAX17 : FzX G 24 "is_ahead" 4 φ17) (F25 : Fz G 28 "_law_order" 2 φ25) (F15 : Fz G 28 "order_of" 2 φ15) (c : Cz G bs 28 X N26 nm26 (fun _ => true)) : ZB X (defBody (topS 26)) b26 :=
  z_cons2 (z_set c (by decide +kernel) (z_call c F25 (z_cons (z_var c (by decide +kernel)) (z_cons (z_var c (by decide +kernel)) (z_nil)))) (hs := c.sW.trans rfl))
  (z_cons2 (z_ifS (z_neT c (z_repr c (z_cons (z_call c F15 (z_cons (z_var c (by decide +kernel)) (z_cons (z_var c (by decide +kernel)) (z_nil)))) (z_nil))) (z_repr c (z_cons (z_var c (by decide +kernel)) (z_nil)))) (z_sone (z_ret (z_bl))) (z_snil))
  (z_cons2 (z_set c (by decide +kernel) (z_val (z_catL (z_val (z_list c (z_cons (z_var c (by decide +kernel)) (z_nil)))) (z_val (z_lst (z_cons (z_str) (z_cons (z_str) (z_nil))))))) (hs := c.sW.trans rfl))
  (z_cons2 (z_for (q := false) c (zi_seq (z_var c (by decide +kernel))) (zg_name c (by decide +kernel)) (z_cons2 (z_set c (by decide +kernel) (z_if (z_inT c (z_var c (by decide +kernel)) (z_var c (by decide +kernel))) (z_tup (z_cons (z_str) (z_cons (z_index (z_var c (by decide +kernel)) (z_cons (z_var c (by decide +kernel)) (z_nil))) (z_nil)))) (z_tup (z_cons (z_str) (z_cons (z_var c (by decide +kernel)) (z_nil))))) (hs := c.sW.trans rfl))
  (z_cons2 (z_ifS (z_neT c (z_repr c (z_cons (z_heard c LZ TE U24 m24 bd24 HB24 (by decide) (fun XL EL cL tkL => zx_callx cL tkL FAX16 (zxa_sure (z_cons (z_var cL (by decide +kernel)) (z_cons (z_var cL (by decide +kernel)) (z_cons (z_var cL (by decide +kernel)) (z_nil)))))) (by decide)) (z_nil))) (z_repr c (z_cons (z_var c (by decide +kernel)) (z_nil)))) (z_sone (z_ret (z_bl))) (z_snil))
  (z_sone (z_for (q := false) c (zi_seq (z_var c (by decide +kernel))) (zg_name c (by decide +kernel)) (z_cons2 (z_setLc (q := false) c [("word", 9)] (zi_seq (z_tup (z_cons (z_var c (by decide +kernel)) (z_cons (z_var c (by decide +kernel)) (z_nil))))) (fun Xc1 c1 => ⟨zg_name c1 (by decide +kernel), zts_one (z_notinT c1 (z_var c1 (by decide +kernel)) (z_var c1 (by decide +kernel))), z_var c1 (by decide +kernel)⟩))
  (z_cons2 (z_set c (by decide +kernel) (z_if (z_neT c (z_var c (by decide +kernel)) (z_val (z_lst (z_nil)))) (z_tup (z_cons (z_str) (z_cons (z_ix c (z_var c (by decide +kernel)) (z_int)) (z_nil)))) (z_tup (z_cons (z_str) (z_cons (z_lt c (z_index (z_var c (by decide +kernel)) (z_cons (z_var c (by decide +kernel)) (z_nil))) (z_index (z_var c (by decide +kernel)) (z_cons (z_var c (by decide +kernel)) (z_nil)))) (z_nil))))) (hs := c.sW.trans rfl))
  (z_sone (z_ifS (z_neT c (z_repr c (z_cons (z_heard c LZ TE U24 m24 bd24 HB24 (by decide) (fun XL EL cL tkL => zx_callx cL tkL FAX17 (zxa_sure (z_cons (z_var cL (by decide +kernel)) (z_cons (z_var cL (by decide +kernel)) (z_cons (z_var cL (by decide +kernel)) (z_cons (z_var cL (by decide +kernel)) (z_nil))))))) (by decide)) (z_nil))) (z_repr c (z_cons (z_var c (by decide +kernel)) (z_nil)))) (z_sone (z_ret (z_bl))) (z_snil))))))))))
  (z_sone (z_ret (z_bl))))))
/-! ### law -/
def nm27 : List (Str × NameKind) := [("script", .local), ("tap", .local), ("lots", .local), ("k", .local), ("tally", .local), ("kept", .local), ("_law_tap", .globalImplicit), ("_law_lots", .globalImplicit), ("_law_take", .globalImplicit), ("range", .globalImplicit), ("_law_tally", .globalImplicit), ("repr", .globalImplicit), ("_law_right", .globalImplicit)]
def N27 : List Str := ["script", "tap", "lots", "k", "tally", "kept"]
theorem sc27 : FnScope N27 ["script"] (defScope (topS 27)) := ⟨rfl, rfl, rfl, by decide +kernel, rfl, by decide +kernel, by decide +kernel⟩
noncomputable def b27 : Fn Ct :=
  fSeq (fSet 1 (fCall φ19 (fCons (fVar 0) (fNil))))
  (fSeq (fSet 2 (fCall φ21 (fCons (fVar 1) (fCons (fBin gAdd (fC (.int 2)) (fCall φ20 (fCons (fVar 1) (fCons (fC (.int 5)) (fNil))))) (fNil)))))
  (fSeq (fFor (fRng1 (fCons (fC (.int 3)) (fNil))) (gNm 3) (fSeq (fSet 4 (fCall φ22 (fCons (fVar 1) (fCons (fVar 2) (fNil)))))
  (fSeq (fSet 5 (fCall gRepr (fCons (fTup (fCons (fVar 2) (fCons (fVar 4) (fNil)))) (fNil))))
  (fIfS (fOrT (fNotT (fTest (fCall φ26 (fCons (fVar 2) (fCons (fVar 4) (fNil)))))) (fTest (fBin gNe (fCall gRepr (fCons (fTup (fCons (fVar 2) (fCons (fVar 4) (fNil)))) (fNil))) (fVar 5)))) (fRet (fC (.bl false))) (fNop)))))
  (fRet (fC (.bl true)))))
noncomputable def φ27 : Phi := fDef 1 6 b27
theorem zb27 {G : Gz} {X : Cx} (F19 : Fz G 29 "_law_tap" 1 φ19) (F21 : Fz G 29 "_law_lots" 2 φ21) (F20 : Fz G 29 "_law_take" 2 φ20) (F22 : Fz G 29 "_law_tally" 2 φ22) (F26 : Fz G 29 "_law_right" 2 φ26) (c : Cz G bs 29 X N27 nm27 (fun _ => true)) : ZB X (defBody (topS 27)) b27 :=
  z_cons2 (z_set c (by decide +kernel) (z_call c F19 (z_cons (z_var c (by decide +kernel)) (z_nil))) (hs := c.sW.trans rfl))
  (z_cons2 (z_set c (by decide +kernel) (z_call c F21 (z_cons (z_var c (by decide +kernel)) (z_cons (z_add (z_int) (z_call c F20 (z_cons (z_var c (by decide +kernel)) (z_cons (z_int) (z_nil))))) (z_nil)))) (hs := c.sW.trans rfl))
  (z_cons2 (z_for (q := false) c (zi_rng1 c (z_cons (z_int) (z_nil))) (zg_name c (by decide +kernel)) (z_cons2 (z_set c (by decide +kernel) (z_call c F22 (z_cons (z_var c (by decide +kernel)) (z_cons (z_var c (by decide +kernel)) (z_nil)))) (hs := c.sW.trans rfl))
  (z_cons2 (z_set c (by decide +kernel) (z_repr c (z_cons (z_tup (z_cons (z_var c (by decide +kernel)) (z_cons (z_var c (by decide +kernel)) (z_nil)))) (z_nil))) (hs := c.sW.trans rfl))
  (z_sone (z_ifS (z_wT (w_or (z_notT (z_valT (z_call c F26 (z_cons (z_var c (by decide +kernel)) (z_cons (z_var c (by decide +kernel)) (z_nil)))))) (w_or1 (z_neT c (z_repr c (z_cons (z_tup (z_cons (z_var c (by decide +kernel)) (z_cons (z_var c (by decide +kernel)) (z_nil)))) (z_nil))) (z_var c (by decide +kernel)))))) (z_sone (z_ret (z_bl))) (z_snil))))))
  (z_sone (z_ret (z_bl)))))
theorem sI5 : ScI (inClass (topS 8) 0) "LostError" ["name"] := ⟨⟨rfl, rfl, rfl, by decide +kernel, rfl, by decide +kernel, by decide +kernel⟩, rfl, memF1 rfl, rfl⟩
/-! ### what the top has written -/
theorem all_mk {l : PySem.W.OpenLaw} {w : World} {K : PySem.W.Frag} {h : Heap} {mg : Str → Option Value} {fa : Addr} (X : K.In h) (G : h.Ns mainGlobals mg) (hfa : mg "law" = some (.ref fa))
    {f14 : Addr} {od14 an14 : Option Addr} {sl14 : Array (Option Value)} {oc14 kV14 dc14 pm14 cd14 ct14 : Value}
    (a14 : PySem.W.nsIn K mainGlobals "at_of" = some (some (.ref f14))) (l14 : K.lookup f14 = some ⟨oc14, od14, .func (PySem.W.fnOf "at_of" "at_of" (defArgs (topS 14)) (defBody (topS 14)) (defScope (topS 14)) .none kV14 dc14 pm14 an14 cd14 ct14), sl14⟩) (c14 : PySem.W.codeIn K cd14 "at_of" = true) (k14 : PySem.W.keepIn K (.ref f14) = true)
    {f15 : Addr} {od15 an15 : Option Addr} {sl15 : Array (Option Value)} {oc15 kV15 dc15 pm15 cd15 ct15 : Value}
    (a15 : PySem.W.nsIn K mainGlobals "order_of" = some (some (.ref f15))) (l15 : K.lookup f15 = some ⟨oc15, od15, .func (PySem.W.fnOf "order_of" "order_of" (defArgs (topS 15)) (defBody (topS 15)) (defScope (topS 15)) .none kV15 dc15 pm15 an15 cd15 ct15), sl15⟩) (c15 : PySem.W.codeIn K cd15 "order_of" = true) (k15 : PySem.W.keepIn K (.ref f15) = true)
    {f16 : Addr} {od16 an16 : Option Addr} {sl16 : Array (Option Value)} {oc16 kV16 dc16 pm16 cd16 ct16 : Value}
    (a16 : PySem.W.nsIn K mainGlobals "place_of" = some (some (.ref f16))) (l16 : K.lookup f16 = some ⟨oc16, od16, .func (PySem.W.fnOf "place_of" "place_of" (defArgs (topS 16)) (defBody (topS 16)) (defScope (topS 16)) .none kV16 dc16 pm16 an16 cd16 ct16), sl16⟩) (c16 : PySem.W.codeIn K cd16 "place_of" = true) (k16 : PySem.W.keepIn K (.ref f16) = true)
    {f17 : Addr} {od17 an17 : Option Addr} {sl17 : Array (Option Value)} {oc17 kV17 dc17 pm17 cd17 ct17 : Value}
    (a17 : PySem.W.nsIn K mainGlobals "is_ahead" = some (some (.ref f17))) (l17 : K.lookup f17 = some ⟨oc17, od17, .func (PySem.W.fnOf "is_ahead" "is_ahead" (defArgs (topS 17)) (defBody (topS 17)) (defScope (topS 17)) .none kV17 dc17 pm17 an17 cd17 ct17), sl17⟩) (c17 : PySem.W.codeIn K cd17 "is_ahead" = true) (k17 : PySem.W.keepIn K (.ref f17) = true)
    {f19 : Addr} {od19 an19 : Option Addr} {sl19 : Array (Option Value)} {oc19 kV19 dc19 pm19 cd19 ct19 : Value}
    (a19 : PySem.W.nsIn K mainGlobals "_law_tap" = some (some (.ref f19))) (l19 : K.lookup f19 = some ⟨oc19, od19, .func (PySem.W.fnOf "_law_tap" "_law_tap" (defArgs (topS 19)) (defBody (topS 19)) (defScope (topS 19)) .none kV19 dc19 pm19 an19 cd19 ct19), sl19⟩) (c19 : PySem.W.codeIn K cd19 "_law_tap" = true) (k19 : PySem.W.keepIn K (.ref f19) = true)
    {f20 : Addr} {od20 an20 : Option Addr} {sl20 : Array (Option Value)} {oc20 kV20 dc20 pm20 cd20 ct20 : Value}
    (a20 : PySem.W.nsIn K mainGlobals "_law_take" = some (some (.ref f20))) (l20 : K.lookup f20 = some ⟨oc20, od20, .func (PySem.W.fnOf "_law_take" "_law_take" (defArgs (topS 20)) (defBody (topS 20)) (defScope (topS 20)) .none kV20 dc20 pm20 an20 cd20 ct20), sl20⟩) (c20 : PySem.W.codeIn K cd20 "_law_take" = true) (k20 : PySem.W.keepIn K (.ref f20) = true)
    {f21 : Addr} {od21 an21 : Option Addr} {sl21 : Array (Option Value)} {oc21 kV21 dc21 pm21 cd21 ct21 : Value}
    (a21 : PySem.W.nsIn K mainGlobals "_law_lots" = some (some (.ref f21))) (l21 : K.lookup f21 = some ⟨oc21, od21, .func (PySem.W.fnOf "_law_lots" "_law_lots" (defArgs (topS 21)) (defBody (topS 21)) (defScope (topS 21)) .none kV21 dc21 pm21 an21 cd21 ct21), sl21⟩) (c21 : PySem.W.codeIn K cd21 "_law_lots" = true) (k21 : PySem.W.keepIn K (.ref f21) = true)
    {f22 : Addr} {od22 an22 : Option Addr} {sl22 : Array (Option Value)} {oc22 kV22 dc22 pm22 cd22 ct22 : Value}
    (a22 : PySem.W.nsIn K mainGlobals "_law_tally" = some (some (.ref f22))) (l22 : K.lookup f22 = some ⟨oc22, od22, .func (PySem.W.fnOf "_law_tally" "_law_tally" (defArgs (topS 22)) (defBody (topS 22)) (defScope (topS 22)) .none kV22 dc22 pm22 an22 cd22 ct22), sl22⟩) (c22 : PySem.W.codeIn K cd22 "_law_tally" = true) (k22 : PySem.W.keepIn K (.ref f22) = true)
    {f23 : Addr} {od23 an23 : Option Addr} {sl23 : Array (Option Value)} {oc23 kV23 dc23 pm23 cd23 ct23 : Value}
    (a23 : PySem.W.nsIn K mainGlobals "_law_flags" = some (some (.ref f23))) (l23 : K.lookup f23 = some ⟨oc23, od23, .func (PySem.W.fnOf "_law_flags" "_law_flags" (defArgs (topS 23)) (defBody (topS 23)) (defScope (topS 23)) .none kV23 dc23 pm23 an23 cd23 ct23), sl23⟩) (c23 : PySem.W.codeIn K cd23 "_law_flags" = true) (k23 : PySem.W.keepIn K (.ref f23) = true)
    {f24 : Addr} {od24 an24 : Option Addr} {sl24 : Array (Option Value)} {oc24 kV24 dc24 pm24 cd24 ct24 : Value}
    (a24 : PySem.W.nsIn K mainGlobals "_law_heard" = some (some (.ref f24))) (l24 : K.lookup f24 = some ⟨oc24, od24, .func (PySem.W.fnOf "_law_heard" "_law_heard" (defArgs (topS 24)) (defBody (topS 24)) (defScope (topS 24)) .none kV24 dc24 pm24 an24 cd24 ct24), sl24⟩) (c24 : PySem.W.codeIn K cd24 "_law_heard" = true) (k24 : PySem.W.keepIn K (.ref f24) = true)
    {f25 : Addr} {od25 an25 : Option Addr} {sl25 : Array (Option Value)} {oc25 kV25 dc25 pm25 cd25 ct25 : Value}
    (a25 : PySem.W.nsIn K mainGlobals "_law_order" = some (some (.ref f25))) (l25 : K.lookup f25 = some ⟨oc25, od25, .func (PySem.W.fnOf "_law_order" "_law_order" (defArgs (topS 25)) (defBody (topS 25)) (defScope (topS 25)) .none kV25 dc25 pm25 an25 cd25 ct25), sl25⟩) (c25 : PySem.W.codeIn K cd25 "_law_order" = true) (k25 : PySem.W.keepIn K (.ref f25) = true)
    {f26 : Addr} {od26 an26 : Option Addr} {sl26 : Array (Option Value)} {oc26 kV26 dc26 pm26 cd26 ct26 : Value}
    (a26 : PySem.W.nsIn K mainGlobals "_law_right" = some (some (.ref f26))) (l26 : K.lookup f26 = some ⟨oc26, od26, .func (PySem.W.fnOf "_law_right" "_law_right" (defArgs (topS 26)) (defBody (topS 26)) (defScope (topS 26)) .none kV26 dc26 pm26 an26 cd26 ct26), sl26⟩) (c26 : PySem.W.codeIn K cd26 "_law_right" = true) (k26 : PySem.W.keepIn K (.ref f26) = true)
    {f27 : Addr} {od27 an27 : Option Addr} {sl27 : Array (Option Value)} {oc27 kV27 dc27 pm27 cd27 ct27 : Value}
    (a27 : PySem.W.nsIn K mainGlobals "law" = some (some (.ref f27))) (l27 : K.lookup f27 = some ⟨oc27, od27, .func (PySem.W.fnOf "law" "law" (defArgs (topS 27)) (defBody (topS 27)) (defScope (topS 27)) .none kV27 dc27 pm27 an27 cd27 ct27), sl27⟩) (c27 : PySem.W.codeIn K cd27 "law" = true) (k27 : PySem.W.keepIn K (.ref f27) = true)
    {C0 CN0 : Addr} {cq0 : Str} {cb0 cu0 : List Value} {cs0 : List Str} {cab0 : Bool} {cc0 : Option Bool} {cd0_ : Option Addr} {ck0_0 ck1_0 ck2_0 ck3_0 ck5_0 : Option Value}
    (ca0 : PySem.W.nsIn K mainGlobals "NoPaper" = some (some (.ref C0)))
    {C1 CN1 : Addr} {cq1 : Str} {cb1 cu1 : List Value} {cs1 : List Str} {cab1 : Bool} {cc1 : Option Bool} {cd1_ : Option Addr} {ck0_1 ck1_1 ck2_1 ck3_1 ck5_1 : Option Value}
    (ca1 : PySem.W.nsIn K mainGlobals "NoEnd" = some (some (.ref C1)))
    {C2 CN2 : Addr} {cq2 : Str} {cb2 cu2 : List Value} {cs2 : List Str} {cab2 : Bool} {cc2 : Option Bool} {cd2_ : Option Addr} {ck0_2 ck1_2 ck2_2 ck3_2 ck5_2 : Option Value}
    (ca2 : PySem.W.nsIn K mainGlobals "NoPage" = some (some (.ref C2)))
    {C3 CN3 : Addr} {cq3 : Str} {cb3 cu3 : List Value} {cs3 : List Str} {cab3 : Bool} {cc3 : Option Bool} {cd3_ : Option Addr} {ck0_3 ck1_3 ck2_3 ck3_3 ck5_3 : Option Value}
    (ca3 : PySem.W.nsIn K mainGlobals "NoText" = some (some (.ref C3)))
    {C4 CN4 : Addr} {cq4 : Str} {cb4 cu4 : List Value} {cs4 : List Str} {cab4 : Bool} {cc4 : Option Bool} {cd4_ : Option Addr} {ck0_4 ck1_4 ck2_4 ck3_4 ck5_4 : Option Value}
    (ca4 : PySem.W.nsIn K mainGlobals "NoRow" = some (some (.ref C4)))
    {C5 CN5 : Addr} {cq5 : Str} {cb5 cu5 : List Value} {cs5 : List Str} {cab5 : Bool} {cc5 : Option Bool} {cd5_ : Option Addr} {ck0_5 ck1_5 ck2_5 ck3_5 ck5_5 : Option Value}
    (ca5 : PySem.W.nsIn K mainGlobals "NoName" = some (some (.ref C5)))
    {C6 CN6 : Addr} {cq6 : Str} {cb6 cu6 : List Value} {cs6 : List Str} {cab6 : Bool} {cc6 : Option Bool} {cd6_ : Option Addr} {ck0_6 ck1_6 ck2_6 ck3_6 ck5_6 : Option Value}
    (ca6 : PySem.W.nsIn K mainGlobals "NoPile" = some (some (.ref C6)))
    {C7 CN7 : Addr} {cq7 : Str} {cb7 cu7 : List Value} {cs7 : List Str} {cab7 : Bool} {cc7 : Option Bool} {cd7_ : Option Addr} {ck0_7 ck1_7 ck2_7 ck3_7 ck5_7 : Option Value}
    (ca7 : PySem.W.nsIn K mainGlobals "NoStep" = some (some (.ref C7)))
    {C8 CN8 : Addr} {cq8 : Str} {cb8 cu8 : List Value} {cs8 : List Str} {cab8 : Bool} {cc8 : Option Bool} {cd8_ : Option Addr} {ck0_8 ck1_8 ck2_8 ck3_8 ck5_8 : Option Value}
    (ca8 : PySem.W.nsIn K mainGlobals "NoPart" = some (some (.ref C8)))
    {C9 CN9 : Addr} {cq9 : Str} {cb9 cu9 : List Value} {cs9 : List Str} {cab9 : Bool} {cc9 : Option Bool} {cd9_ : Option Addr} {ck0_9 ck1_9 ck2_9 ck3_9 ck5_9 : Option Value}
    (ca9 : PySem.W.nsIn K mainGlobals "NoBack" = some (some (.ref C9)))
    {C10 CN10 : Addr} {cq10 : Str} {cb10 cu10 : List Value} {cs10 : List Str} {cab10 : Bool} {cc10 : Option Bool} {cd10_ : Option Addr} {ck0_10 ck1_10 ck2_10 ck3_10 ck5_10 : Option Value}
    (ca10 : PySem.W.nsIn K mainGlobals "CountError" = some (some (.ref C10)))
    {C11 CN11 : Addr} {cq11 : Str} {cb11 cu11 : List Value} {cs11 : List Str} {cab11 : Bool} {cc11 : Option Bool} {cd11_ : Option Addr} {ck0_11 ck1_11 ck2_11 ck3_11 ck5_11 : Option Value}
    (ca11 : PySem.W.nsIn K mainGlobals "LostError" = some (some (.ref C11)))
    (cl0 : K.lookup C0 = some (excClassObj "NoPaper" cq0 C0 CN0 cb0 (.ref C10 :: [.type "ValueError", .type "Exception", .type "BaseException", .type "object"]) true cs0 cu0 cab0 cc0 cd0_ ck0_0 ck1_0 ck2_0 ck3_0 ck5_0 "ValueError.__new__"))
    (ct0 : PySem.W.typeIn K (.ref C0) = some (.type "type"))
    (cg0 : PySem.W.findIn K (.ref C0) "__getattribute__" = some (some (.builtin "BaseException.__getattribute__"))) (ch0 : PySem.W.findIn K (.ref C0) "__getattr__" = some none) (cy0 : PySem.W.findIn K (.ref C0) "__class__" = some (some (.builtin "object.__class__")))
    (cf0_0 : PySem.W.findIn K (.ref C0) "word" = some none)
    (cf0_1 : PySem.W.findIn K (.ref C0) "at" = some none)
    (cl1 : K.lookup C1 = some (excClassObj "NoEnd" cq1 C1 CN1 cb1 (.ref C10 :: [.type "ValueError", .type "Exception", .type "BaseException", .type "object"]) true cs1 cu1 cab1 cc1 cd1_ ck0_1 ck1_1 ck2_1 ck3_1 ck5_1 "ValueError.__new__"))
    (ct1 : PySem.W.typeIn K (.ref C1) = some (.type "type"))
    (cg1 : PySem.W.findIn K (.ref C1) "__getattribute__" = some (some (.builtin "BaseException.__getattribute__"))) (ch1 : PySem.W.findIn K (.ref C1) "__getattr__" = some none) (cy1 : PySem.W.findIn K (.ref C1) "__class__" = some (some (.builtin "object.__class__")))
    (cf1_0 : PySem.W.findIn K (.ref C1) "number" = some none)
    (cl2 : K.lookup C2 = some (excClassObj "NoPage" cq2 C2 CN2 cb2 (.ref C10 :: [.type "ValueError", .type "Exception", .type "BaseException", .type "object"]) true cs2 cu2 cab2 cc2 cd2_ ck0_2 ck1_2 ck2_2 ck3_2 ck5_2 "ValueError.__new__"))
    (ct2 : PySem.W.typeIn K (.ref C2) = some (.type "type"))
    (cg2 : PySem.W.findIn K (.ref C2) "__getattribute__" = some (some (.builtin "BaseException.__getattribute__"))) (ch2 : PySem.W.findIn K (.ref C2) "__getattr__" = some none) (cy2 : PySem.W.findIn K (.ref C2) "__class__" = some (some (.builtin "object.__class__")))
    (cf2_0 : PySem.W.findIn K (.ref C2) "word" = some none)
    (cl3 : K.lookup C3 = some (excClassObj "NoText" cq3 C3 CN3 cb3 (.ref C10 :: [.type "ValueError", .type "Exception", .type "BaseException", .type "object"]) true cs3 cu3 cab3 cc3 cd3_ ck0_3 ck1_3 ck2_3 ck3_3 ck5_3 "ValueError.__new__"))
    (ct3 : PySem.W.typeIn K (.ref C3) = some (.type "type"))
    (cg3 : PySem.W.findIn K (.ref C3) "__getattribute__" = some (some (.builtin "BaseException.__getattribute__"))) (ch3 : PySem.W.findIn K (.ref C3) "__getattr__" = some none) (cy3 : PySem.W.findIn K (.ref C3) "__class__" = some (some (.builtin "object.__class__")))
    (cf3_0 : PySem.W.findIn K (.ref C3) "row" = some none)
    (cf3_1 : PySem.W.findIn K (.ref C3) "word" = some none)
    (cl4 : K.lookup C4 = some (excClassObj "NoRow" cq4 C4 CN4 cb4 (.ref C10 :: [.type "ValueError", .type "Exception", .type "BaseException", .type "object"]) true cs4 cu4 cab4 cc4 cd4_ ck0_4 ck1_4 ck2_4 ck3_4 ck5_4 "ValueError.__new__"))
    (ct4 : PySem.W.typeIn K (.ref C4) = some (.type "type"))
    (cg4 : PySem.W.findIn K (.ref C4) "__getattribute__" = some (some (.builtin "BaseException.__getattribute__"))) (ch4 : PySem.W.findIn K (.ref C4) "__getattr__" = some none) (cy4 : PySem.W.findIn K (.ref C4) "__class__" = some (some (.builtin "object.__class__")))
    (cf4_0 : PySem.W.findIn K (.ref C4) "row" = some none)
    (cl5 : K.lookup C5 = some (excClassObj "NoName" cq5 C5 CN5 cb5 (.ref C11 :: [.type "LookupError", .type "Exception", .type "BaseException", .type "object"]) true cs5 cu5 cab5 cc5 cd5_ ck0_5 ck1_5 ck2_5 ck3_5 ck5_5 "LookupError.__new__"))
    (ct5 : PySem.W.typeIn K (.ref C5) = some (.type "type"))
    (cg5 : PySem.W.findIn K (.ref C5) "__getattribute__" = some (some (.builtin "BaseException.__getattribute__"))) (ch5 : PySem.W.findIn K (.ref C5) "__getattr__" = some none) (cy5 : PySem.W.findIn K (.ref C5) "__class__" = some (some (.builtin "object.__class__")))
    (cf5_0 : PySem.W.findIn K (.ref C5) "name" = some none)
    (cl6 : K.lookup C6 = some (excClassObj "NoPile" cq6 C6 CN6 cb6 (.ref C11 :: [.type "LookupError", .type "Exception", .type "BaseException", .type "object"]) true cs6 cu6 cab6 cc6 cd6_ ck0_6 ck1_6 ck2_6 ck3_6 ck5_6 "LookupError.__new__"))
    (ct6 : PySem.W.typeIn K (.ref C6) = some (.type "type"))
    (cg6 : PySem.W.findIn K (.ref C6) "__getattribute__" = some (some (.builtin "BaseException.__getattribute__"))) (ch6 : PySem.W.findIn K (.ref C6) "__getattr__" = some none) (cy6 : PySem.W.findIn K (.ref C6) "__class__" = some (some (.builtin "object.__class__")))
    (cf6_0 : PySem.W.findIn K (.ref C6) "pile" = some none)
    (cl7 : K.lookup C7 = some (excClassObj "NoStep" cq7 C7 CN7 cb7 (.ref C11 :: [.type "LookupError", .type "Exception", .type "BaseException", .type "object"]) true cs7 cu7 cab7 cc7 cd7_ ck0_7 ck1_7 ck2_7 ck3_7 ck5_7 "LookupError.__new__"))
    (ct7 : PySem.W.typeIn K (.ref C7) = some (.type "type"))
    (cg7 : PySem.W.findIn K (.ref C7) "__getattribute__" = some (some (.builtin "BaseException.__getattribute__"))) (ch7 : PySem.W.findIn K (.ref C7) "__getattr__" = some none) (cy7 : PySem.W.findIn K (.ref C7) "__class__" = some (some (.builtin "object.__class__")))
    (cf7_0 : PySem.W.findIn K (.ref C7) "step" = some none)
    (cl8 : K.lookup C8 = some (excClassObj "NoPart" cq8 C8 CN8 cb8 (.ref C11 :: [.type "LookupError", .type "Exception", .type "BaseException", .type "object"]) true cs8 cu8 cab8 cc8 cd8_ ck0_8 ck1_8 ck2_8 ck3_8 ck5_8 "LookupError.__new__"))
    (ct8 : PySem.W.typeIn K (.ref C8) = some (.type "type"))
    (cg8 : PySem.W.findIn K (.ref C8) "__getattribute__" = some (some (.builtin "BaseException.__getattribute__"))) (ch8 : PySem.W.findIn K (.ref C8) "__getattr__" = some none) (cy8 : PySem.W.findIn K (.ref C8) "__class__" = some (some (.builtin "object.__class__")))
    (cf8_0 : PySem.W.findIn K (.ref C8) "number" = some none)
    (cl9 : K.lookup C9 = some (excClassObj "NoBack" cq9 C9 CN9 cb9 (.ref C11 :: [.type "LookupError", .type "Exception", .type "BaseException", .type "object"]) true cs9 cu9 cab9 cc9 cd9_ ck0_9 ck1_9 ck2_9 ck3_9 ck5_9 "LookupError.__new__"))
    (ct9 : PySem.W.typeIn K (.ref C9) = some (.type "type"))
    (cl10 : K.lookup C10 = some (excClassObj "CountError" cq10 C10 CN10 cb10 ([.type "ValueError", .type "Exception", .type "BaseException", .type "object"]) true cs10 cu10 cab10 cc10 cd10_ ck0_10 ck1_10 ck2_10 ck3_10 ck5_10 "ValueError.__new__"))
    (ct10 : PySem.W.typeIn K (.ref C10) = some (.type "type"))
    (cl11 : K.lookup C11 = some (excClassObj "LostError" cq11 C11 CN11 cb11 ([.type "LookupError", .type "Exception", .type "BaseException", .type "object"]) true cs11 cu11 cab11 cc11 cd11_ ck0_11 ck1_11 ck2_11 ck3_11 ck5_11 "LookupError.__new__"))
    (ct11 : PySem.W.typeIn K (.ref C11) = some (.type "type"))
    (csg : PySem.W.specialIn K (.builtin "object.__class__") "__get__" = some (some (.builtin "getset_descriptor.__get__"))) (ctk : PySem.W.takesIn K (.builtin "object.__class__") = some true)
    {fI5 : Addr} {iod5 ian5 : Option Addr} {isl5 : Array (Option Value)} {ioc5 ikV5 idc5 ipm5 icd5 ict5 : Value}
    (ea5 : PySem.W.findIn K (.ref C5) "__setattr__" = some (some (.builtin "object.__setattr__"))) (eb5 : PySem.W.subIn K (.ref C5) (.type "BaseException") = some true) (ec5 : PySem.W.keepIn K (.ref C5) = true)
    (ed5 : PySem.W.findIn K (.ref C5) "__init__" = some (some (.ref fI5))) (ee5 : PySem.W.typeIn K (.ref fI5) = some (.type "function"))
    (ef5 : K.lookup fI5 = some ⟨ioc5, iod5, .func (PySem.W.fnOf "__init__" "NoName.__init__" (defArgs (inClass (topS 8) 0)) (defBody (inClass (topS 8) 0)) (defScope (inClass (topS 8) 0)) .none ikV5 idc5 ipm5 ian5 icd5 ict5), isl5⟩) (eg5 : PySem.W.codeIn K icd5 "NoName.__init__" = true) (eh5 : PySem.W.keepIn K (.ref fI5) = true)
    (ei11 : PySem.W.specialIn K (.ref C11) "__getattribute__" = some (some (.builtin "type.__getattribute__"))) (ej11 : PySem.W.readsIn K C11 (.type "type") = true) (ek11 : PySem.W.findCls K (.ref C11) (.type "type") "__init__" = some (.val (.builtin "LookupError.__init__")))
    {tc15 tp15 : Addr} {to15 : Value} {td15 : Option Addr} {tv15 : Array Value} {ts15 : Array (Option Value)} (te15 : cd15 = .ref tc15) (tl15 : K.lookup tc15 = some ⟨to15, td15, .fields tv15, ts15⟩) (tb15 : tv15[11]? = some (.ref tp15)) (tn15 : K.lookup tp15 = none)
    {tc26 tp26 : Addr} {to26 : Value} {td26 : Option Addr} {tv26 : Array Value} {ts26 : Array (Option Value)} (te26 : cd26 = .ref tc26) (tl26 : K.lookup tc26 = some ⟨to26, td26, .fields tv26, ts26⟩) (tb26 : tv26[11]? = some (.ref tp26)) (tn26 : K.lookup tp26 = none)
    (tq15_26 : tp15 ≠ tp26)
    (tq26_15 : tp26 ≠ tp15)
    (z0 : PySem.W.nsIn K mainGlobals "tuple" = some none) (z1 : PySem.W.nsIn K mainGlobals "sorted" = some none) (z2 : PySem.W.nsIn K mainGlobals "list" = some none) (z3 : PySem.W.nsIn K mainGlobals "len" = some none) (z4 : PySem.W.nsIn K mainGlobals "range" = some none) (z5 : PySem.W.nsIn K mainGlobals "isinstance" = some none) (z6 : PySem.W.nsIn K mainGlobals "ValueError" = some none) (z7 : PySem.W.nsIn K mainGlobals "LookupError" = some none) (z8 : PySem.W.nsIn K mainGlobals "repr" = some none) :
    ∃ fd : FuncData, (∀ (s : Shared) (v : Value), BindsTo s fd ⟨[v], []⟩ [("script", v)]) ∧ (∀ y ∈ tabN, ∀ c P, PySem.W.tabIn K y = some (c, P) → K.lookup P = none) ∧ ∀ base : Heap, K.In base → base.Ns mainGlobals mg → TabsB K mg base → FnZ ⟨l.prog, w, K, mg, base⟩ 30 fa fd ["script"] (spZ K 1 φ27) := by
  have e := hfa.symm.trans (PySem.W.mg_of X G a27)
  cases e
  have U14 := fun_mk (st := topS 14) l14 c14 k14
  have U15 := fun_mk (st := topS 15) l15 c15 k15
  have U16 := fun_mk (st := topS 16) l16 c16 k16
  have U17 := fun_mk (st := topS 17) l17 c17 k17
  have U19 := fun_mk (st := topS 19) l19 c19 k19
  have U20 := fun_mk (st := topS 20) l20 c20 k20
  have U21 := fun_mk (st := topS 21) l21 c21 k21
  have U22 := fun_mk (st := topS 22) l22 c22 k22
  have U23 := fun_mk (st := topS 23) l23 c23 k23
  have U24 := fun_mk (st := topS 24) l24 c24 k24
  have U25 := fun_mk (st := topS 25) l25 c25 k25
  have U26 := fun_mk (st := topS 26) l26 c26 k26
  have U27 := fun_mk (st := topS 27) l27 c27 k27
  have tt15 := tab_mk a15 l15 te15 tl15 tb15
  have tt26 := tab_mk a26 l26 te26 tl26 tb26
  refine ⟨PySem.W.fnOf "law" "law" (defArgs (topS 27)) (defBody (topS 27)) (defScope (topS 27)) .none kV27 dc27 pm27 an27 cd27 ct27, fun s v => .of_eq rfl, ?tabs, fun base _ _ TB => ?_⟩
  case tabs =>
    intro y hy c P e
    simp only [tabN, List.mem_cons, List.not_mem_nil, or_false] at hy
    rcases hy with rfl | rfl
    · rw [tt15] at e; cases e; exact tn15
    · rw [tt26] at e; cases e; exact tn26
  have lz15 : ∀ X : Cx, X.env.qual = "order_of" ++ (".<locals>." : Str) → X.env.code = cd15 → Lz ⟨l.prog, w, K, mg, base⟩ X "order_of" tc15 tp15 := fun X h1 h2 => by
    refine ⟨h1, h2.trans (tab_code a15 l15 tt15), tt15, TB "order_of" (by simp [tabN]) _ _ tt15, by simp [tabN], fun y hy c e => ?_⟩
    have e : PySem.W.tabIn K y = some (c, tp15) := e
    simp only [tabN, List.mem_cons, List.not_mem_nil, or_false] at hy
    rcases hy with rfl | rfl
    · rfl
    · rw [tt26] at e; cases e; exact absurd rfl tq15_26
  have lz26 : ∀ X : Cx, X.env.qual = "_law_right" ++ (".<locals>." : Str) → X.env.code = cd26 → Lz ⟨l.prog, w, K, mg, base⟩ X "_law_right" tc26 tp26 := fun X h1 h2 => by
    refine ⟨h1, h2.trans (tab_code a26 l26 tt26), tt26, TB "_law_right" (by simp [tabN]) _ _ tt26, by simp [tabN], fun y hy c e => ?_⟩
    have e : PySem.W.tabIn K y = some (c, tp26) := e
    simp only [tabN, List.mem_cons, List.not_mem_nil, or_false] at hy
    rcases hy with rfl | rfl
    · rw [tt15] at e; cases e; exact absurd rfl tq26_15
    · rfl
  have hbl : ∀ y ∈ bs, mg y = none := fun y hy => by
    simp only [bs, List.mem_cons, List.not_mem_nil, or_false] at hy
    rcases hy with rfl | rfl | rfl | rfl | rfl | rfl | rfl | rfl | rfl
    · exact PySem.W.mg_none_of X G z0
    · exact PySem.W.mg_none_of X G z1
    · exact PySem.W.mg_none_of X G z2
    · exact PySem.W.mg_none_of X G z3
    · exact PySem.W.mg_none_of X G z4
    · exact PySem.W.mg_none_of X G z5
    · exact PySem.W.mg_none_of X G z6
    · exact PySem.W.mg_none_of X G z7
    · exact PySem.W.mg_none_of X G z8
  have TE : ErrsT K mg (fun i => [C0, C1, C2, C3, C4, C5, C6, C7, C8, C9, C10, C11].getD i 0) prs := ⟨rfl, rfl, all12 (fun _ => PySem.W.mg_of X G ca0) (fun _ => PySem.W.mg_of X G ca1) (fun _ => PySem.W.mg_of X G ca2) (fun _ => PySem.W.mg_of X G ca3) (fun _ => PySem.W.mg_of X G ca4) (fun _ => PySem.W.mg_of X G ca5) (fun _ => PySem.W.mg_of X G ca6) (fun _ => PySem.W.mg_of X G ca7) (fun _ => PySem.W.mg_of X G ca8) (fun _ => PySem.W.mg_of X G ca9) (fun _ => PySem.W.mg_of X G ca10) (fun _ => PySem.W.mg_of X G ca11), all12 (fun _ => ⟨_, _, _, _, _, _, _, _, _, _, _, _, _, _, cl0⟩) (fun _ => ⟨_, _, _, _, _, _, _, _, _, _, _, _, _, _, cl1⟩) (fun _ => ⟨_, _, _, _, _, _, _, _, _, _, _, _, _, _, cl2⟩) (fun _ => ⟨_, _, _, _, _, _, _, _, _, _, _, _, _, _, cl3⟩) (fun _ => ⟨_, _, _, _, _, _, _, _, _, _, _, _, _, _, cl4⟩) (fun _ => ⟨_, _, _, _, _, _, _, _, _, _, _, _, _, _, cl5⟩) (fun _ => ⟨_, _, _, _, _, _, _, _, _, _, _, _, _, _, cl6⟩) (fun _ => ⟨_, _, _, _, _, _, _, _, _, _, _, _, _, _, cl7⟩) (fun _ => ⟨_, _, _, _, _, _, _, _, _, _, _, _, _, _, cl8⟩) (fun _ => ⟨_, _, _, _, _, _, _, _, _, _, _, _, _, _, cl9⟩) (fun _ => ⟨_, _, _, _, _, _, _, _, _, _, _, _, _, _, cl10⟩) (fun _ => ⟨_, _, _, _, _, _, _, _, _, _, _, _, _, _, cl11⟩), all12 (fun _ => ct0) (fun _ => ct1) (fun _ => ct2) (fun _ => ct3) (fun _ => ct4) (fun _ => ct5) (fun _ => ct6) (fun _ => ct7) (fun _ => ct8) (fun _ => ct9) (fun _ => ct10) (fun _ => ct11), all9 (fun _ => cg0) (fun _ => cg1) (fun _ => cg2) (fun _ => cg3) (fun _ => cg4) (fun _ => cg5) (fun _ => cg6) (fun _ => cg7) (fun _ => cg8), all9 (fun _ => ch0) (fun _ => ch1) (fun _ => ch2) (fun _ => ch3) (fun _ => ch4) (fun _ => ch5) (fun _ => ch6) (fun _ => ch7) (fun _ => ch8), all9 (fun _ => cy0) (fun _ => cy1) (fun _ => cy2) (fun _ => cy3) (fun _ => cy4) (fun _ => cy5) (fun _ => cy6) (fun _ => cy7) (fun _ => cy8), all9 (fun _ => memF2 cf0_0 cf0_1) (fun _ => memF1 cf1_0) (fun _ => memF1 cf2_0) (fun _ => memF2 cf3_0 cf3_1) (fun _ => memF1 cf4_0) (fun _ => memF1 cf5_0) (fun _ => memF1 cf6_0) (fun _ => memF1 cf7_0) (fun _ => memF1 cf8_0), csg, ctk⟩
  have BI11 : BaseI K mg "LostError" "LookupError.__init__" := ⟨⟨C11, PySem.W.mg_of X G ca11, ei11, ej11, ek11⟩, by decide +kernel⟩
  have UI5 := fun_mk (st := (inClass (topS 8) 0)) ef5 eg5 eh5
  have OX5 := oexL cl5 ea5 eb5 ct5 ec5
  have E5 : ErrC ⟨l.prog, w, K, mg, base⟩ 5 := ⟨⟨C5, fI5, _, _, _, _, _, PySem.W.mg_of X G ca5, OX5, ed5, ee5, UI5.binds (ps := ["self", "name"]) fun _ _ _ _ _ _ us hl => match us, hl with | [_, _], _ => rfl, init1 UI5 sI5 (by decide +kernel) (by decide +kernel) (by decide +kernel) BI11 OX5 (taker_of cf5_0) rfl (fun env => ⟨_, rfl⟩) (fun env => rfl) (fun env => rfl)⟩⟩
  have FX14 : FzX ⟨l.prog, w, K, mg, base⟩ 15 "at_of" 2 φ14 := fzx_mk (bs := bs) (k := 14) U14 (PySem.W.mg_of X G a14) (U14.binds (ps := ["lots", "name"]) fun _ _ _ _ _ _ us hl => match us, hl with | [_, _], _ => rfl) rfl sc14 rfl hbl fun X E c tk => zb14  E5 c tk
  have F14 := fz_of_x FX14
  have F15 : Fz ⟨l.prog, w, K, mg, base⟩ 17 "order_of" 2 φ15 := fz_mkL (bs := bs) (k := 16) U15 (PySem.W.mg_of X G a15) (U15.binds (ps := ["lots", "tally"]) fun _ _ _ _ _ _ us hl => match us, hl with | [_, _], _ => rfl) rfl sc15 rfl hbl fun X c hq hc => zb15  (lz15 X hq hc) c
  have FX16 : FzX ⟨l.prog, w, K, mg, base⟩ 18 "place_of" 3 φ16 := fzx_mk (bs := bs) (k := 17) U16 (PySem.W.mg_of X G a16) (U16.binds (ps := ["lots", "tally", "name"]) fun _ _ _ _ _ _ us hl => match us, hl with | [_, _, _], _ => rfl) rfl sc16 rfl hbl fun X E c tk => zb16  (FX14.mono (by decide)) (F15.mono (by decide)) c tk
  have F16 := fz_of_x FX16
  have FX17 : FzX ⟨l.prog, w, K, mg, base⟩ 19 "is_ahead" 4 φ17 := fzx_mk (bs := bs) (k := 18) U17 (PySem.W.mg_of X G a17) (U17.binds (ps := ["lots", "tally", "one", "other"]) fun _ _ _ _ _ _ us hl => match us, hl with | [_, _, _, _], _ => rfl) rfl sc17 rfl hbl fun X E c tk => zb17  (FX16.mono (by decide)) c tk
  have F17 := fz_of_x FX17
  have F19 : Fz ⟨l.prog, w, K, mg, base⟩ 21 "_law_tap" 1 φ19 := fz_mk (bs := bs) (k := 20) U19 (PySem.W.mg_of X G a19) (U19.binds (ps := ["script"]) fun _ _ _ _ _ _ us hl => match us, hl with | [_], _ => rfl) rfl sc19 rfl hbl fun X c => zb19  c
  have F20 : Fz ⟨l.prog, w, K, mg, base⟩ 22 "_law_take" 2 φ20 := fz_mk (bs := bs) (k := 21) U20 (PySem.W.mg_of X G a20) (U20.binds (ps := ["tap", "many"]) fun _ _ _ _ _ _ us hl => match us, hl with | [_, _], _ => rfl) rfl sc20 rfl hbl fun X c => zb20  c
  have F21 : Fz ⟨l.prog, w, K, mg, base⟩ 23 "_law_lots" 2 φ21 := fz_mk (bs := bs) (k := 22) U21 (PySem.W.mg_of X G a21) (U21.binds (ps := ["tap", "many"]) fun _ _ _ _ _ _ us hl => match us, hl with | [_, _], _ => rfl) rfl sc21 rfl hbl fun X c => zb21  (F20.mono (by decide)) c
  have F22 : Fz ⟨l.prog, w, K, mg, base⟩ 24 "_law_tally" 2 φ22 := fz_mk (bs := bs) (k := 23) U22 (PySem.W.mg_of X G a22) (U22.binds (ps := ["tap", "lots"]) fun _ _ _ _ _ _ us hl => match us, hl with | [_, _], _ => rfl) rfl sc22 rfl hbl fun X c => zb22  (F20.mono (by decide)) c
  have F23 : FzH prs ⟨l.prog, w, K, mg, base⟩ 25 "_law_flags" 1 φ23 := fzh_mk (bs := bs) (k := 24) U23 (PySem.W.mg_of X G a23) (U23.binds (ps := ["e"]) fun _ _ _ _ _ _ us hl => match us, hl with | [_], _ => rfl) rfl sc23 rfl hbl fun X a dd cn c => zb23  c
  have HB24 : HeardB prs ⟨l.prog, w, K, mg, base⟩ bs 25 N24 nm24 (topS 24) gs24 := hb24 (F23.mono (by decide))
  have m24 := PySem.W.mg_of X G a24
  have bd24 := U24.binds (ps := ["ask"]) fun _ _ _ _ _ _ us hl => match us, hl with | [_], _ => rfl
  have F25 : Fz ⟨l.prog, w, K, mg, base⟩ 27 "_law_order" 2 φ25 := fz_mk (bs := bs) (k := 26) U25 (PySem.W.mg_of X G a25) (U25.binds (ps := ["lots", "tally"]) fun _ _ _ _ _ _ us hl => match us, hl with | [_, _], _ => rfl) rfl sc25 rfl hbl fun X c => zb25  c
  have F26 : Fz ⟨l.prog, w, K, mg, base⟩ 29 "_law_right" 2 φ26 := fz_mkL (bs := bs) (k := 28) U26 (PySem.W.mg_of X G a26) (U26.binds (ps := ["lots", "tally"]) fun _ _ _ _ _ _ us hl => match us, hl with | [_, _], _ => rfl) rfl sc26 rfl hbl fun X c hq hc => zb26  (lz26 X hq hc) TE U24 m24 bd24 HB24 (FX16.mono (by decide)) (FX17.mono (by decide)) (F25.mono (by decide)) (F15.mono (by decide)) c
  exact z_fn (k := 29) U27 sc27 rfl hbl fun X c => zb27  (F19.mono (by decide)) (F21.mono (by decide)) (F20.mono (by decide)) (F22.mono (by decide)) (F26.mono (by decide)) c
end Lwk02

namespace Lwk02
open PySem PySem.Spec L2 Z
theorem prs_all : ∀ cn, cn < 9 → prs cn = true := by decide
theorem take02 : TakeS φ20 := take_spec
theorem b22_eq : b22 = bTallyT φ20 := by
  first | rfl | (unfold b22 bTallyT; rfl)
theorem tally02 : TallyT φ22 := by
  unfold φ22
  rw [b22_eq]
  exact @tallyT_spec φ20 @take02
theorem plain : ∀ ns : List Int, ns.length ≤ 63 → ∃ s', φ27 [.ls (ns.map .int)] [] = .ok (.bl true) s' := by
  intro ns _
  have hP : TapS φ19 := tap_spec
  have hT : TakeS φ20 := take02
  have hL : LotsS φ21 := lots_spec hT
  have hAt : AtX φ14 := atX_spec
  have hO : OrdS φ15 := ordF_spec
  have hPl : PlX φ16 := plX_spec hAt hO
  have hAh : AhX φ17 := ahX_spec hPl
  have hG : SuiteS gs24 := suite_spec (φf := φ23) flags_0 flags_1 flags_8 flags_5 flags_6
  obtain ⟨bi, hbi⟩ : ∃ b, b = bA2i prs N24.length gs24 φ17 := ⟨_, rfl⟩
  obtain ⟨b1, hb1⟩ : ∃ b, b = bA1i prs N24.length gs24 φ16 := ⟨_, rfl⟩
  have hR : Right2 φ26 := by
    have hOL := @ordL_spec ttO rfl
    have e26 : φ26 = fDef 2 10 (bRt2 φ25 φ15 (bA1 (bA1q b1 (bA2 bi)))) := by rw [hb1, hbi]; rfl
    have e25 : φ25 = fDef 2 6 (bOrdL ttO) := rfl
    rw [e26]
    refine @right2_spec φ25 φ15 φ16 φ17 prs N24.length gs24 (bA1 (bA1q b1 (bA2 bi))) (bA1q b1 (bA2 bi)) b1 (bA2 bi) bi rfl rfl hb1 rfl hbi hG rfl prs_all ?_ ?_ ?_ ?_
    · exact @hPl
    · exact @hAh
    · rw [e25]
      exact @hOL
    · exact @hO
  suffices h : OkE nX (φ27 [.ls (ns.map .int)] []) (fun d s' => d = .bl true) by
    obtain ⟨d, s', e, rfl⟩ := h.get
    exact ⟨s', e⟩
  have e27 : φ27 = fDef 1 6 (bLaw2 φ19 φ20 φ21 φ22 φ26) := rfl
  rw [e27]
  refine @law2_spec φ19 φ20 φ21 φ22 φ26 ?_ ?_ ?_ ?_ ?_ ns
  · exact @hP
  · exact @hT
  · exact @hL
  · exact @tally02
  · exact @hR
end Lwk02

open PySem PySem.W PyProof.Rows
set_option maxHeartbeats 0 in
theorem PySem.Challenge.cw_countbundles_k02_orders_holds : PySem.Challenge.rw_countbundles_k02_orders.Holds := by
  w_on; o_law; k_head; (case hw => w_witness2)
  k_fill
  refine Z.walkZ (l := PySem.Challenge.rw_countbundles_k02_orders) (n := 63) (k := 30) (x := "script") (φ := Lwk02.φ27) rfl (by decide) rfl ⟨rfl, by decide, by decide⟩ (fun w h Y => by first | exact PySem.W.km_in_of Y | exact PySem.W.kIn_of Y) ?F Lwk02.plain ?hrec
  case F =>
    intro w mg fa h KX G hmg
    refine' Lwk02.all_mk KX G hmg ?a14 ?l14 ?c14 ?k14 ?a15 ?l15 ?c15 ?k15 ?a16 ?l16 ?c16 ?k16 ?a17 ?l17 ?c17 ?k17 ?a19 ?l19 ?c19 ?k19 ?a20 ?l20 ?c20 ?k20 ?a21 ?l21 ?c21 ?k21 ?a22 ?l22 ?c22 ?k22 ?a23 ?l23 ?c23 ?k23 ?a24 ?l24 ?c24 ?k24 ?a25 ?l25 ?c25 ?k25 ?a26 ?l26 ?c26 ?k26 ?a27 ?l27 ?c27 ?k27 ?ca0 ?ca1 ?ca2 ?ca3 ?ca4 ?ca5 ?ca6 ?ca7 ?ca8 ?ca9 ?ca10 ?ca11 ?cl0 ?ct0 ?cg0 ?ch0 ?cy0 ?cf0_0 ?cf0_1 ?cl1 ?ct1 ?cg1 ?ch1 ?cy1 ?cf1_0 ?cl2 ?ct2 ?cg2 ?ch2 ?cy2 ?cf2_0 ?cl3 ?ct3 ?cg3 ?ch3 ?cy3 ?cf3_0 ?cf3_1 ?cl4 ?ct4 ?cg4 ?ch4 ?cy4 ?cf4_0 ?cl5 ?ct5 ?cg5 ?ch5 ?cy5 ?cf5_0 ?cl6 ?ct6 ?cg6 ?ch6 ?cy6 ?cf6_0 ?cl7 ?ct7 ?cg7 ?ch7 ?cy7 ?cf7_0 ?cl8 ?ct8 ?cg8 ?ch8 ?cy8 ?cf8_0 ?cl9 ?ct9 ?cl10 ?ct10 ?cl11 ?ct11 ?csg ?ctk ?ea5 ?eb5 ?ec5 ?ed5 ?ee5 ?ef5 ?eg5 ?eh5 ?ei11 ?ej11 ?ek11 ?te15 ?tl15 ?tb15 ?tn15 ?te26 ?tl26 ?tb26 ?tn26 ?tq15_26 ?tq26_15 ?z0 ?z1 ?z2 ?z3 ?z4 ?z5 ?z6 ?z7 ?z8
    (case a14 => k_is); (case l14 => k_is); (case c14 => k_is); (case k14 => k_is); (case a15 => k_is); (case l15 => k_is); (case c15 => k_is); (case k15 => k_is); (case a16 => k_is); (case l16 => k_is); (case c16 => k_is); (case k16 => k_is); (case a17 => k_is); (case l17 => k_is); (case c17 => k_is); (case k17 => k_is); (case a19 => k_is); (case l19 => k_is); (case c19 => k_is); (case k19 => k_is); (case a20 => k_is); (case l20 => k_is); (case c20 => k_is); (case k20 => k_is); (case a21 => k_is); (case l21 => k_is); (case c21 => k_is); (case k21 => k_is); (case a22 => k_is); (case l22 => k_is); (case c22 => k_is); (case k22 => k_is); (case a23 => k_is); (case l23 => k_is); (case c23 => k_is); (case k23 => k_is); (case a24 => k_is); (case l24 => k_is); (case c24 => k_is); (case k24 => k_is); (case a25 => k_is); (case l25 => k_is); (case c25 => k_is); (case k25 => k_is); (case a26 => k_is); (case l26 => k_is); (case c26 => k_is); (case k26 => k_is); (case a27 => k_is); (case l27 => k_is); (case c27 => k_is); (case k27 => k_is); (case ca0 => k_is); (case ca1 => k_is); (case ca2 => k_is); (case ca3 => k_is); (case ca4 => k_is); (case ca5 => k_is); (case ca6 => k_is); (case ca7 => k_is); (case ca8 => k_is); (case ca9 => k_is); (case ca10 => k_is); (case ca11 => k_is); (case cl0 => k_is); (case ct0 => k_is); (case cg0 => k_is); (case ch0 => k_is); (case cy0 => k_is); (case cf0_0 => k_is); (case cf0_1 => k_is); (case cl1 => k_is); (case ct1 => k_is); (case cg1 => k_is); (case ch1 => k_is); (case cy1 => k_is); (case cf1_0 => k_is); (case cl2 => k_is); (case ct2 => k_is); (case cg2 => k_is); (case ch2 => k_is); (case cy2 => k_is); (case cf2_0 => k_is); (case cl3 => k_is); (case ct3 => k_is); (case cg3 => k_is); (case ch3 => k_is); (case cy3 => k_is); (case cf3_0 => k_is); (case cf3_1 => k_is); (case cl4 => k_is); (case ct4 => k_is); (case cg4 => k_is); (case ch4 => k_is); (case cy4 => k_is); (case cf4_0 => k_is); (case cl5 => k_is); (case ct5 => k_is); (case cg5 => k_is); (case ch5 => k_is); (case cy5 => k_is); (case cf5_0 => k_is); (case cl6 => k_is); (case ct6 => k_is); (case cg6 => k_is); (case ch6 => k_is); (case cy6 => k_is); (case cf6_0 => k_is); (case cl7 => k_is); (case ct7 => k_is); (case cg7 => k_is); (case ch7 => k_is); (case cy7 => k_is); (case cf7_0 => k_is); (case cl8 => k_is); (case ct8 => k_is); (case cg8 => k_is); (case ch8 => k_is); (case cy8 => k_is); (case cf8_0 => k_is); (case cl9 => k_is); (case ct9 => k_is); (case cl10 => k_is); (case ct10 => k_is); (case cl11 => k_is); (case ct11 => k_is); (case csg => k_is); (case ctk => k_is); (case ea5 => k_is); (case eb5 => k_is); (case ec5 => k_is); (case ed5 => k_is); (case ee5 => k_is); (case ef5 => k_is); (case eg5 => k_is); (case eh5 => k_is); (case ei11 => k_is); (case ej11 => k_is); (case ek11 => k_is); (case te15 => rfl); (case tl15 => k_is); (case tb15 => rfl); (case tn15 => rfl); (case te26 => rfl); (case tl26 => k_is); (case tb26 => rfl); (case tn26 => rfl); (case tq15_26 => decide); (case tq26_15 => decide); (case z0 => k_is); (case z1 => k_is); (case z2 => k_is); (case z3 => k_is); (case z4 => k_is); (case z5 => k_is); (case z6 => k_is); (case z7 => k_is); (case z8 => k_is)
  case hrec =>
    intro y hy
    simp only [Z.tabN, List.mem_cons, List.not_mem_nil, or_false] at hy
    rcases hy with rfl | rfl <;> rfl
